import PyProof.Rows.All
import Wide.All
import OpenK.AllK
import Wide.FinOn
import HandS.ForMost
import HandS.Wide
import HandS.Gcd
import HandS.IsInst
import HandS.Flow
import KE.KMathG
import Flt.RightSqrt
import HandS.Style
import PyProof.Rows.IntBool
import PyProof.FactsAll.bool
import PyProof.FString2
import HandS.Conv
import HandS.Defaults
import HandS.Head0
import HandS.Head1
import HandS.Head2
import HandS.Head3
import HandS.HeadEnd
import HandS.HeadHook1
import HandS.HeadHook2
import KE.IntBitsLaws
import HandS.Deep
import PySem.Challenge.RW_whennumbersstop_k50_whole_surds_as_fract
import HandS.Head3
set_option Elab.async false
set_option linter.all false
set_option maxRecDepth 100000
set_option exponentiation.threshold 20000
/-! A layer over the hand layer: slots hold data (or own lists), the heap is out of sight. -/
namespace DL
open PySem PySem.Spec PyProof.Rows L2
abbrev D := PyData
abbrev Fg := PySem.W.Frag

/-! ### data stay -/
theorem sqt_mono {K : Fg} {H H' : Hp} (e : Same H H') {a : Addr} {xs : List V} (h : SqT K H a xs) : SqT K H' a xs := by
  rcases h with (h | ⟨o, h⟩) | h
  · exact .inl (.inl (e _ _ h))
  · exact .inl (.inr ⟨o, e _ _ h⟩)
  · exact .inr h
mutual
theorem dp_mono {K : Fg} {H H' : Hp} (e : Same H H') : ∀ {d : D} {v : V}, Dp K H v d → Dp K H' v d
  | .none, _, h => by cases h; exact .non
  | .bool _, _, h => by cases h; exact .bl _
  | .int _, _, h => by cases h; exact .int _
  | .str _, _, h => by cases h; exact .str _
  | .list ds, _, h => by
    cases h with
    | lst a b => exact .lst (e.seq a) (dpa_mono e b)
  | .tuple ds, _, h => by
    cases h with
    | tup a b => exact .tup (sqt_mono e a) (dpa_mono e b)
  | .dict _, _, h => by cases h
theorem dpa_mono {K : Fg} {H H' : Hp} (e : Same H H') : ∀ {ds : List D} {vs : List V}, DpAll K H vs ds → DpAll K H' vs ds
  | [], _, h => by cases h; exact .nil
  | d :: ds, _, h => by
    cases h with
    | cons a b => exact .cons (dp_mono e a) (dpa_mono e b)
end
theorem dpa_len {K : Fg} {H : Hp} : ∀ {ds : List D} {vs : List V}, DpAll K H vs ds → vs.length = ds.length
  | [], _, h => by cases h; rfl
  | d :: ds, _, h => by
    cases h with
    | cons a b => exact congrArg (· + 1) (dpa_len b)
theorem dpa_get {K : Fg} {H : Hp} : ∀ {ds : List D} {vs : List V} {i : Nat} {d : D}, DpAll K H vs ds → ds[i]? = some d → ∃ v, vs[i]? = some v ∧ Dp K H v d
  | [], _, _, _, h, e => by simp at e
  | d :: ds, _, 0, d', h, e => by
    cases h with
    | cons a b => cases (show some d = some d' from e); exact ⟨_, rfl, a⟩
  | d :: ds, _, i + 1, d', h, e => by
    cases h with
    | cons a b => exact dpa_get (i := i) b e
theorem dpa_get' {K : Fg} {H : Hp} : ∀ {ds : List D} {vs : List V} {i : Nat} {v : V}, DpAll K H vs ds → vs[i]? = some v → ∃ d, ds[i]? = some d ∧ Dp K H v d
  | [], _, _, _, h, e => by cases h; simp at e
  | d :: ds, _, 0, v, h, e => by
    cases h with
    | cons a b => cases (show some _ = some v from e); exact ⟨_, rfl, a⟩
  | d :: ds, _, i + 1, v, h, e => by
    cases h with
    | cons a b => exact dpa_get' (i := i) b e
theorem dpa_app {K : Fg} {H : Hp} : ∀ {ds es : List D} {vs us : List V}, DpAll K H vs ds → DpAll K H us es → DpAll K H (vs ++ us) (ds ++ es)
  | [], _, _, _, h, g => by cases h; exact g
  | d :: ds, _, _, _, h, g => by
    cases h with
    | cons a b => exact .cons a (dpa_app b g)
theorem dpa_set {K : Fg} {H : Hp} {d : D} {v : V} (q : Dp K H v d) : ∀ {ds : List D} {vs : List V} {i : Nat}, DpAll K H vs ds → DpAll K H (vs.set i v) (ds.set i d)
  | [], _, _, h => by cases h; exact .nil
  | e :: ds, _, 0, h => by
    cases h with
    | cons a b => exact .cons q b
  | e :: ds, _, i + 1, h => by
    cases h with
    | cons a b => exact .cons a (dpa_set q b)
theorem dpa_take {K : Fg} {H : Hp} : ∀ {n : Nat} {ds : List D} {vs : List V}, DpAll K H vs ds → DpAll K H (vs.take n) (ds.take n)
  | 0, _, _, _ => .nil
  | n + 1, [], _, h => by cases h; exact .nil
  | n + 1, _ :: _, _, h => by
    cases h with
    | cons a b => exact .cons a (dpa_take b)
theorem dpa_drop {K : Fg} {H : Hp} : ∀ {n : Nat} {ds : List D} {vs : List V}, DpAll K H vs ds → DpAll K H (vs.drop n) (ds.drop n)
  | 0, _, _, h => by simpa using h
  | n + 1, [], _, h => by cases h; exact .nil
  | n + 1, _ :: _, _, h => by
    cases h with
    | cons a b => simpa using dpa_drop (n := n) b
theorem dpa_ints {K : Fg} {H : Hp} : ∀ (ns : List Int), DpAll K H (ns.map V.int) (ns.map PyData.int)
  | [] => .nil
  | n :: r => .cons (.int n) (dpa_ints r)
theorem dpa_bls {K : Fg} {H : Hp} : ∀ {bs : List Bool} {vs : List V}, DpAll K H vs (bs.map PyData.bool) → vs = bs.map V.bl
  | [], _, h => by cases h; rfl
  | b :: r, _, h => by
    cases h with
    | cons a q => cases a; rw [dpa_bls q]; rfl
theorem dpa_ints' {K : Fg} {H : Hp} : ∀ {ns : List Int} {vs : List V}, DpAll K H vs (ns.map PyData.int) → vs = ns.map V.int
  | [], _, h => by cases h; rfl
  | b :: r, _, h => by
    cases h with
    | cons a q => cases a; rw [dpa_ints' q]; rfl

/-! ### slots -/
inductive Sl where
  | no
  | va (d : D)
  | ce (a : Addr) (ds : List D)
def Cell (ρ : List Sl) (b : Addr) : Prop := ∃ (i : Nat) (ds : List D), ρ[i]? = some (.ce b ds)
structure EnvOk (K : Fg) (G H : Hp) (σ : L2.St) (ρ : List Sl) : Prop where
  sub : Same G H
  va : ∀ (i : Nat) (d : D), ρ[i]? = some (.va d) → ∃ v, σ[i]? = some (some v) ∧ Dp K G v d
  ce : ∀ (i : Nat) (a : Addr) (ds : List D), ρ[i]? = some (.ce a ds) → σ[i]? = some (some (.ref a)) ∧ G a = none ∧ ∃ vs, H a = some (.lst vs) ∧ DpAll K G vs ds
  dj : ∀ (i j : Nat) (a : Addr) (ds es : List D), ρ[i]? = some (.ce a ds) → ρ[j]? = some (.ce a es) → i = j
  len : σ.length = ρ.length
/-- from (G, H) on: known things stay, others but the own lists stay, what is known anew was not there, or was an own list -/
structure Step (ρ : List Sl) (G H : Hp) (ρ' : List Sl) (G' H' : Hp) : Prop where
  g : Same G G'
  fr : ∀ b o, H b = some o → ¬ Cell ρ b → H' b = some o
  dom : ∀ b, H' b = none → H b = none
  nw : ∀ b o, G' b = some o → G b = some o ∨ H b = none ∨ Cell ρ b
  cl : ∀ b, Cell ρ' b → Cell ρ b ∨ H b = none
theorem Step.refl (ρ : List Sl) (G H : Hp) : Step ρ G H ρ G H := ⟨.refl G, fun _ _ h _ => h, fun _ h => h, fun _ _ h => .inl h, fun _ h => .inl h⟩
theorem Step.trans {ρ ρ1 ρ2 : List Sl} {G G1 G2 H H1 H2 : Hp} (a : Step ρ G H ρ1 G1 H1) (b : Step ρ1 G1 H1 ρ2 G2 H2) : Step ρ G H ρ2 G2 H2 where
  g := a.g.trans b.g
  fr := fun x o h c => b.fr x o (a.fr x o h c) fun z => by
    rcases a.cl x z with z | z
    · exact c z
    · rw [z] at h; cases h
  dom := fun x h => a.dom x (b.dom x h)
  nw := fun x o h => by
    rcases b.nw x o h with h | h | h
    · exact a.nw x o h
    · exact .inr (.inl (a.dom x h))
    · rcases a.cl x h with h | h
      · exact .inr (.inr h)
      · exact .inr (.inl h)
  cl := fun x h => by
    rcases b.cl x h with h | h
    · exact a.cl x h
    · exact .inr (a.dom x h)
/-- nothing is changed, new things are known -/
structure Grow (G H G' H' : Hp) : Prop where
  g : Same G G'
  h : Same H H'
  s : Same G' H'
  nw : ∀ b o, G' b = some o → G b = some o ∨ H b = none
theorem Grow.refl {G H : Hp} (e : Same G H) : Grow G H G H := ⟨.refl G, .refl H, e, fun _ _ h => .inl h⟩
theorem none_back {H H' : Hp} (e : Same H H') {b : Addr} (h : H' b = none) : H b = none := e.free h
theorem Grow.trans {G H G1 H1 G2 H2 : Hp} (a : Grow G H G1 H1) (b : Grow G1 H1 G2 H2) : Grow G H G2 H2 :=
  ⟨a.g.trans b.g, a.h.trans b.h, b.s, fun x o h => by
    rcases b.nw x o h with h | h
    · exact a.nw x o h
    · exact .inr (none_back a.h h)⟩
theorem Grow.new {G H : Hp} (e : Same G H) {p : Addr} (hp : H p = none) (o : HO) : Grow G H (upd G p o) (upd H p o) := by
  have gp : G p = none := none_back e hp
  refine ⟨fun b u h => ?_, fun b u h => ?_, fun b u h => ?_, fun b u h => ?_⟩
  · rw [upd_ne (ne_of_none h gp)]; exact h
  · rw [upd_ne (ne_of_none h hp)]; exact h
  · by_cases z : b = p
    · subst z; rw [upd_same] at h ⊢; exact h
    · rw [upd_ne z] at h ⊢; exact e _ _ h
  · by_cases z : b = p
    · subst z; exact .inr hp
    · rw [upd_ne z] at h; exact .inl h
section
variable {K : Fg} {G H G' H' : Hp} {σ σ' : L2.St} {ρ ρ' : List Sl}
theorem EnvOk.grow (e : EnvOk K G H σ ρ) (g : Grow G H G' H') : EnvOk K G' H' σ ρ where
  sub := g.s
  va := fun i d h => let ⟨v, a, b⟩ := e.va i d h; ⟨v, a, dp_mono g.g b⟩
  ce := fun i a ds h => by
    obtain ⟨h1, h2, vs, h3, h4⟩ := e.ce i a ds h
    refine ⟨h1, ?_, vs, g.h _ _ h3, dpa_mono g.g h4⟩
    cases q : G' a with
    | none => rfl
    | some o =>
      rcases g.nw a o q with z | z
      · rw [h2] at z; cases z
      · rw [h3] at z; cases z
  dj := e.dj
  len := e.len
theorem Grow.step (g : Grow G H G' H') : Step ρ G H ρ G' H' :=
  ⟨g.g, fun b o h _ => g.h b o h, fun b h => none_back g.h h, fun b o h => (g.nw b o h).elim .inl (.inr ∘ .inl), fun _ h => .inl h⟩
theorem cell_lt {i : Nat} {a : Addr} {ds : List D} (h : ρ[i]? = some (.ce a ds)) : Cell ρ a := ⟨i, ds, h⟩
/-- a slot takes a value -/
theorem EnvOk.set (e : EnvOk K G H σ ρ) (i : Nat) {v : V} {d : D} (h : Dp K G v d) : EnvOk K G H (σ.set i (some v)) (ρ.set i (.va d)) where
  sub := e.sub
  va := fun j d' q => by
    by_cases z : i = j
    · subst z
      by_cases l : i < ρ.length
      · rw [List.getElem?_set_self l] at q
        cases q
        exact ⟨v, by rw [List.getElem?_set_self (by rw [e.len]; exact l)], h⟩
      · rw [List.getElem?_eq_none_iff.mpr (by rw [List.length_set]; omega)] at q
        cases q
    · rw [List.getElem?_set_ne z] at q ⊢
      exact e.va j d' q
  ce := fun j a ds q => by
    by_cases z : i = j
    · subst z
      by_cases l : i < ρ.length
      · rw [List.getElem?_set_self l] at q; cases q
      · rw [List.getElem?_eq_none_iff.mpr (by rw [List.length_set]; omega)] at q
        cases q
    · rw [List.getElem?_set_ne z] at q ⊢
      exact e.ce j a ds q
  dj := fun j k a ds es q r => by
    have hj : i ≠ j := fun z => by
      subst z
      by_cases l : i < ρ.length
      · rw [List.getElem?_set_self l] at q; cases q
      · rw [List.getElem?_eq_none_iff.mpr (by rw [List.length_set]; omega)] at q; cases q
    have hk : i ≠ k := fun z => by
      subst z
      by_cases l : i < ρ.length
      · rw [List.getElem?_set_self l] at r; cases r
      · rw [List.getElem?_eq_none_iff.mpr (by rw [List.length_set]; omega)] at r; cases r
    rw [List.getElem?_set_ne hj] at q
    rw [List.getElem?_set_ne hk] at r
    exact e.dj j k a ds es q r
  len := by rw [List.length_set, List.length_set]; exact e.len
theorem cell_set {i : Nat} {d : D} {b : Addr} (h : Cell (ρ.set i (.va d)) b) : Cell ρ b := by
  obtain ⟨j, ds, h⟩ := h
  by_cases z : i = j
  · subst z
    by_cases l : i < ρ.length
    · rw [List.getElem?_set_self l] at h; cases h
    · rw [List.getElem?_eq_none_iff.mpr (by rw [List.length_set]; omega)] at h; cases h
  · rw [List.getElem?_set_ne z] at h
    exact ⟨j, ds, h⟩
theorem Step.set (s : Step ρ G H ρ' G' H') (i : Nat) (d : D) : Step ρ G H (ρ'.set i (.va d)) G' H' :=
  ⟨s.g, s.fr, s.dom, s.nw, fun b h => s.cl b (cell_set h)⟩
end

/-! ### what an expression comes to -/
section
variable (K : Fg)
def DE (te : TE) (ρ : List Sl) (Q : D → List Sl → Prop) : Prop :=
  ∀ (σ : L2.St) (G H : Hp), EnvOk K G H σ ρ → ∀ T : VK, (∀ v d ρ' G' H', Q d ρ' → Step ρ G H ρ' G' H' → EnvOk K G' H' σ ρ' → Dp K G' v d → T v H') → te σ H T
def DT (tt : TT) (ρ : List Sl) (Q : Bool → List Sl → Prop) : Prop :=
  ∀ (σ : L2.St) (G H : Hp), EnvOk K G H σ ρ → ∀ T : Bool → Hp → Prop, (∀ b ρ' G' H', Q b ρ' → Step ρ G H ρ' G' H' → EnvOk K G' H' σ ρ' → T b H') → tt σ H T
def DA (ta : TA) (ρ : List Sl) (Q : List D → List Sl → Prop) : Prop :=
  ∀ (σ : L2.St) (G H : Hp), EnvOk K G H σ ρ → ∀ T : List V → Hp → Prop, (∀ vs ds ρ' G' H', Q ds ρ' → Step ρ G H ρ' G' H' → EnvOk K G' H' σ ρ' → DpAll K G' vs ds → T vs H') → ta σ H T
/-- one value, nothing changed -/
def DP (te : TE) (ρ : List Sl) (d : D) : Prop :=
  ∀ (σ : L2.St) (G H : Hp), EnvOk K G H σ ρ → ∀ T : VK, (∀ v G' H', Grow G H G' H' → Dp K G' v d → T v H') → te σ H T
def DTP (tt : TT) (ρ : List Sl) (b : Bool) : Prop :=
  ∀ (σ : L2.St) (G H : Hp), EnvOk K G H σ ρ → ∀ T : Bool → Hp → Prop, (∀ G' H', Grow G H G' H' → T b H') → tt σ H T
def DAP (ta : TA) (ρ : List Sl) (ds : List D) : Prop :=
  ∀ (σ : L2.St) (G H : Hp), EnvOk K G H σ ρ → ∀ T : List V → Hp → Prop, (∀ vs G' H', Grow G H G' H' → DpAll K G' vs ds → T vs H') → ta σ H T
/-- operations on values -/
def R2D (r : R2) (d e : D) (Q : D → Prop) : Prop := ∀ (G H : Hp) (x y : V), Same G H → Dp K G x d → Dp K G y e → ∀ T : VK, (∀ v f G' H', Q f → Grow G H G' H' → Dp K G' v f → T v H') → r x y H T
def R1D (r : V → Hp → VK → Prop) (d : D) (Q : D → Prop) : Prop := ∀ (G H : Hp) (x : V), Same G H → Dp K G x d → ∀ T : VK, (∀ v f G' H', Q f → Grow G H G' H' → Dp K G' v f → T v H') → r x H T
def RCD (r : List V → Hp → VK → Prop) (ds : List D) (Q : D → Prop) : Prop := ∀ (G H : Hp) (vs : List V), Same G H → DpAll K G vs ds → ∀ T : VK, (∀ v f G' H', Q f → Grow G H G' H' → Dp K G' v f → T v H') → r vs H T
end
section
variable {K : Fg} {ρ ρ1 : List Sl} {ta tb te tc : TE} {t u : TT} {d e f : D} {r r' : R2} {Q : D → List Sl → Prop}
theorem DE.mono {Q' : D → List Sl → Prop} (h : DE K te ρ Q) (k : ∀ d ρ', Q d ρ' → Q' d ρ') : DE K te ρ Q' := fun σ G H E T q => h σ G H E T fun v d ρ' G' H' z => q v d ρ' G' H' (k d ρ' z)
theorem DT.mono {Q Q' : Bool → List Sl → Prop} (h : DT K t ρ Q) (k : ∀ d ρ', Q d ρ' → Q' d ρ') : DT K t ρ Q' := fun σ G H E T q => h σ G H E T fun d ρ' G' H' z => q d ρ' G' H' (k d ρ' z)
theorem DE.of (h : DP K te ρ d) (q : Q d ρ) : DE K te ρ Q := fun σ G H E T k => h σ G H E T fun v G' H' g dv => k v d ρ G' H' q g.step (E.grow g) dv
theorem DT.of {b : Bool} {Q : Bool → List Sl → Prop} (h : DTP K t ρ b) (q : Q b ρ) : DT K t ρ Q := fun σ G H E T k => h σ G H E T fun G' H' g => k b ρ G' H' q g.step (E.grow g)
theorem DP.is (h : DP K te ρ d) (q : d = e) : DP K te ρ e := by rw [← q]; exact h
theorem DTP.is {b c : Bool} (h : DTP K t ρ b) (q : b = c) : DTP K t ρ c := by rw [← q]; exact h
theorem DA.of {ta : TA} {ds : List D} {Q : List D → List Sl → Prop} (h : DAP K ta ρ ds) (q : Q ds ρ) : DA K ta ρ Q := fun σ G H E T k => h σ G H E T fun vs G' H' g dv => k vs ds ρ G' H' q g.step (E.grow g) dv

theorem dp_var {i : Nat} (h : ρ[i]? = some (.va d)) : DP K (tVar i) ρ d := fun σ G H E T k => by
  obtain ⟨v, a, b⟩ := E.va i d h
  exact ⟨v, a, k v G H (.refl E.sub) b⟩
theorem de_var {i : Nat} (h : ρ[i]? = some (.va d)) (q : Q d ρ) : DE K (tVar i) ρ Q := DE.of (dp_var h) q
theorem dp_c {v : V} (h : ∀ G, Dp K G v d) : DP K (tC v) ρ d := fun σ G H E T k => k v G H (.refl E.sub) (h G)
theorem dp_int {i : Int} : DP K (tC (.int i)) ρ (.int i) := dp_c fun _ => .int i
theorem dp_bl {b : Bool} : DP K (tC (.bl b)) ρ (.bool b) := dp_c fun _ => .bl b
theorem dp_non : DP K (tC .non) ρ .none := dp_c fun _ => .non
theorem dp_str {x : Str} : DP K (tC (.str x)) ρ (.str x) := dp_c fun _ => .str x

theorem de_op (ha : DE K ta ρ fun d ρ1 => DE K tb ρ1 fun e ρ2 => R2D K r d e fun f => Q f ρ2) : DE K (tOp r ta tb) ρ Q := fun σ G H E T k =>
  ha σ G H E _ fun v d ρ1 G1 H1 hb s1 E1 dv => hb σ G1 H1 E1 _ fun u e ρ2 G2 H2 hr s2 E2 du => hr G2 H2 v u E2.sub (dp_mono s2.g dv) du _ fun z f G3 H3 q g dz => k z f ρ2 G3 H3 q ((s1.trans s2).trans g.step) (E2.grow g) dz
theorem dp_op (ha : DP K ta ρ d) (hb : DP K tb ρ e) (hr : R2D K r d e fun g => g = f) : DP K (tOp r ta tb) ρ f := fun σ G H E T k =>
  ha σ G H E _ fun v G1 H1 g1 dv => hb σ G1 H1 (E.grow g1) _ fun u G2 H2 g2 du => hr G2 H2 v u g2.s (dp_mono g2.g dv) du _ fun z f' G3 H3 q g3 dz => by subst q; exact k z G3 H3 ((g1.trans g2).trans g3) dz
theorem de_un {r : V → Hp → VK → Prop} (ha : DE K ta ρ fun d ρ1 => R1D K r d fun f => Q f ρ1) : DE K (tUn r ta) ρ Q := fun σ G H E T k =>
  ha σ G H E _ fun v d ρ1 G1 H1 hr s1 E1 dv => hr G1 H1 v E1.sub dv _ fun z f G3 H3 q g dz => k z f ρ1 G3 H3 q (s1.trans g.step) (E1.grow g) dz
theorem dp_un {r : V → Hp → VK → Prop} (ha : DP K ta ρ d) (hr : R1D K r d fun g => g = f) : DP K (tUn r ta) ρ f := fun σ G H E T k =>
  ha σ G H E _ fun v G1 H1 g1 dv => hr G1 H1 v g1.s dv _ fun z f' G3 H3 q g3 dz => by subst q; exact k z G3 H3 (g1.trans g3) dz
theorem de_cb {r : List V → Hp → VK → Prop} {ta : TA} (ha : DA K ta ρ fun ds ρ1 => RCD K r ds fun f => Q f ρ1) : DE K (tCB r ta) ρ Q := fun σ G H E T k =>
  ha σ G H E _ fun vs ds ρ1 G1 H1 hr s1 E1 dv => hr G1 H1 vs E1.sub dv _ fun z f G3 H3 q g dz => k z f ρ1 G3 H3 q (s1.trans g.step) (E1.grow g) dz
theorem dp_cb {r : List V → Hp → VK → Prop} {ta : TA} {ds : List D} (ha : DAP K ta ρ ds) (hr : RCD K r ds fun g => g = f) : DP K (tCB r ta) ρ f := fun σ G H E T k =>
  ha σ G H E _ fun v G1 H1 g1 dv => hr G1 H1 v g1.s dv _ fun z f' G3 H3 q g3 dz => by subst q; exact k z G3 H3 (g1.trans g3) dz
theorem da_nil {Q : List D → List Sl → Prop} (q : Q [] ρ) : DA K tNil ρ Q := fun σ G H E T k => k [] [] ρ G H q (.refl _ _ _) E .nil
theorem dap_nil : DAP K tNil ρ [] := fun σ G H E T k => k [] G H (.refl E.sub) .nil
theorem da_cons {tr : TA} {Q : List D → List Sl → Prop} (ha : DE K ta ρ fun d ρ1 => DA K tr ρ1 fun ds ρ2 => Q (d :: ds) ρ2) : DA K (tCons ta tr) ρ Q := fun σ G H E T k =>
  ha σ G H E _ fun v d ρ1 G1 H1 hr s1 E1 dv => hr σ G1 H1 E1 _ fun vs ds ρ2 G2 H2 q s2 E2 dvs => k (v :: vs) (d :: ds) ρ2 G2 H2 q (s1.trans s2) E2 (.cons (dp_mono s2.g dv) dvs)
theorem dap_cons {tr : TA} {ds : List D} (ha : DP K ta ρ d) (hr : DAP K tr ρ ds) : DAP K (tCons ta tr) ρ (d :: ds) := fun σ G H E T k =>
  ha σ G H E _ fun v G1 H1 g1 dv => hr σ G1 H1 (E.grow g1) _ fun vs G2 H2 g2 dvs => k (v :: vs) G2 H2 (g1.trans g2) (.cons (dp_mono g2.g dv) dvs)
/-- a new tuple, a new list -/
theorem de_tup {ta : TA} (ha : DA K ta ρ fun ds ρ1 => ds.length ≤ sizeLine ∧ Q (.tuple ds) ρ1) : DE K (tTup ta) ρ Q := fun σ G H E T k =>
  ha σ G H E _ fun vs ds ρ1 G1 H1 ⟨hl, q⟩ s1 E1 dv => ⟨by rw [dpa_len dv]; exact hl, fun p hp => by
    have g := Grow.new E1.sub hp (.tup vs)
    exact k (.ref p) (.tuple ds) ρ1 _ _ q (s1.trans g.step) (E1.grow g) (.tup (.of upd_same) (dpa_mono g.g dv))⟩
theorem dp_tup {ta : TA} {ds : List D} (ha : DAP K ta ρ ds) (hl : ds.length ≤ sizeLine := by first | decide | (simp; decide)) : DP K (tTup ta) ρ (.tuple ds) := fun σ G H E T k =>
  ha σ G H E _ fun vs G1 H1 g1 dv => ⟨by rw [dpa_len dv]; exact hl, fun p hp => by
    have g := Grow.new g1.s hp (.tup vs)
    exact k (.ref p) _ _ (g1.trans g) (.tup (.of upd_same) (dpa_mono g.g dv))⟩
theorem de_lst {ta : TA} (ha : DA K ta ρ fun ds ρ1 => ds.length ≤ sizeLine ∧ Q (.list ds) ρ1) : DE K (tLst ta) ρ Q := fun σ G H E T k =>
  ha σ G H E _ fun vs ds ρ1 G1 H1 ⟨hl, q⟩ s1 E1 dv => ⟨by rw [dpa_len dv]; exact hl, fun p hp => by
    have g := Grow.new E1.sub hp (.lst vs)
    exact k (.ref p) (.list ds) ρ1 _ _ q (s1.trans g.step) (E1.grow g) (.lst (.of upd_same) (dpa_mono g.g dv))⟩
theorem dp_lst {ta : TA} {ds : List D} (ha : DAP K ta ρ ds) (hl : ds.length ≤ sizeLine := by first | decide | (simp; decide)) : DP K (tLst ta) ρ (.list ds) := fun σ G H E T k =>
  ha σ G H E _ fun vs G1 H1 g1 dv => ⟨by rw [dpa_len dv]; exact hl, fun p hp => by
    have g := Grow.new g1.s hp (.lst vs)
    exact k (.ref p) _ _ (g1.trans g) (.lst (.of upd_same) (dpa_mono g.g dv))⟩
/-! ### tests -/
theorem dt_test {Q : Bool → List Sl → Prop} (h : DE K te ρ fun d ρ1 => ∃ b, d = .bool b ∧ Q b ρ1) : DT K (tTest te) ρ Q := fun σ G H E T k =>
  h σ G H E _ fun v d ρ1 G1 H1 ⟨b, e, q⟩ s1 E1 dv => by subst e; cases dv; exact ⟨b, rfl, k b ρ1 G1 H1 q s1 E1⟩
theorem dtp_test {b : Bool} (h : DP K te ρ (.bool b)) : DTP K (tTest te) ρ b := fun σ G H E T k =>
  h σ G H E _ fun v G1 H1 g dv => by cases dv; exact ⟨b, rfl, k G1 H1 g⟩
theorem dt_B {Q : Bool → List Sl → Prop} (h : DE K te ρ fun d ρ1 => ∃ b, d = .bool b ∧ Q b ρ1) : DT K (tB te) ρ Q := fun σ G H E T k =>
  h σ G H E _ fun v d ρ1 G1 H1 ⟨b, e, q⟩ s1 E1 dv => by subst e; cases dv; exact ⟨b, rfl, k b ρ1 G1 H1 q s1 E1⟩
theorem dtp_B {b : Bool} (h : DP K te ρ (.bool b)) : DTP K (tB te) ρ b := fun σ G H E T k =>
  h σ G H E _ fun v G1 H1 g dv => by cases dv; exact ⟨b, rfl, k G1 H1 g⟩
theorem dt_not {Q : Bool → List Sl → Prop} (h : DT K t ρ fun b ρ1 => Q (!b) ρ1) : DT K (tNot t) ρ Q := fun σ G H E T k =>
  h σ G H E _ fun b ρ1 G1 H1 q s1 E1 => k (!b) ρ1 G1 H1 q s1 E1
theorem dtp_not {b : Bool} (h : DTP K t ρ b) : DTP K (tNot t) ρ (!b) := fun σ G H E T k => h σ G H E _ fun G1 H1 g => k G1 H1 g
theorem dt_and {Q : Bool → List Sl → Prop} (h : DT K t ρ fun b ρ1 => if b = true then DT K u ρ1 Q else Q false ρ1) : DT K (tAnd t u) ρ Q := fun σ G H E T k =>
  h σ G H E _ fun b ρ1 G1 H1 q s1 E1 => by
    cases b with
    | true => exact iteT ((by simpa using q : DT K u ρ1 Q) σ G1 H1 E1 _ fun c ρ2 G2 H2 q2 s2 E2 => k c ρ2 G2 H2 q2 (s1.trans s2) E2)
    | false => exact iteF (k false ρ1 G1 H1 (by simpa using q) s1 E1)
theorem dt_or {Q : Bool → List Sl → Prop} (h : DT K t ρ fun b ρ1 => if b = true then Q true ρ1 else DT K u ρ1 Q) : DT K (tOr t u) ρ Q := fun σ G H E T k =>
  h σ G H E _ fun b ρ1 G1 H1 q s1 E1 => by
    cases b with
    | false => exact iteF ((by simpa using q : DT K u ρ1 Q) σ G1 H1 E1 _ fun c ρ2 G2 H2 q2 s2 E2 => k c ρ2 G2 H2 q2 (s1.trans s2) E2)
    | true => exact iteT (k true ρ1 G1 H1 (by simpa using q) s1 E1)
theorem dtp_and {a b : Bool} (h : DTP K t ρ a) (h2 : a = true → DTP K u ρ b) : DTP K (tAnd t u) ρ (a && b) := fun σ G H E T k =>
  h σ G H E _ fun G1 H1 g => by
    cases a with
    | true => exact iteT (h2 rfl σ G1 H1 (E.grow g) _ fun G2 H2 g2 => k G2 H2 (g.trans g2))
    | false => exact iteF (k G1 H1 g)
theorem dtp_or {a b : Bool} (h : DTP K t ρ a) (h2 : a = false → DTP K u ρ b) : DTP K (tOr t u) ρ (a || b) := fun σ G H E T k =>
  h σ G H E _ fun G1 H1 g => by
    cases a with
    | false => exact iteF (h2 rfl σ G1 H1 (E.grow g) _ fun G2 H2 g2 => k G2 H2 (g.trans g2))
    | true => exact iteT (k G1 H1 g)
theorem de_andV (h : DE K ta ρ fun d ρ1 => ∃ b, d = .bool b ∧ if b = true then DE K tb ρ1 Q else Q (.bool false) ρ1) : DE K (tAndV ta tb) ρ Q := fun σ G H E T k =>
  h σ G H E _ fun v d ρ1 G1 H1 ⟨b, e, q⟩ s1 E1 dv => by
    subst e; cases dv
    refine ⟨b, rfl, ?_⟩
    cases b with
    | true => exact iteT ((by simpa using q : DE K tb ρ1 Q) σ G1 H1 E1 _ fun v2 c ρ2 G2 H2 q2 s2 E2 => k v2 c ρ2 G2 H2 q2 (s1.trans s2) E2)
    | false => exact iteF (k (.bl false) (.bool false) ρ1 G1 H1 (by simpa using q) s1 E1 (.bl false))
theorem de_orV (h : DE K ta ρ fun d ρ1 => ∃ b, d = .bool b ∧ if b = true then Q (.bool true) ρ1 else DE K tb ρ1 Q) : DE K (tOrV ta tb) ρ Q := fun σ G H E T k =>
  h σ G H E _ fun v d ρ1 G1 H1 ⟨b, e, q⟩ s1 E1 dv => by
    subst e; cases dv
    refine ⟨b, rfl, ?_⟩
    cases b with
    | false => exact iteF ((by simpa using q : DE K tb ρ1 Q) σ G1 H1 E1 _ fun v2 c ρ2 G2 H2 q2 s2 E2 => k v2 c ρ2 G2 H2 q2 (s1.trans s2) E2)
    | true => exact iteT (k (.bl true) (.bool true) ρ1 G1 H1 (by simpa using q) s1 E1 (.bl true))
theorem dp_andV {a b : Bool} (h : DP K ta ρ (.bool a)) (h2 : a = true → DP K tb ρ (.bool b)) : DP K (tAndV ta tb) ρ (.bool (a && b)) := fun σ G H E T k =>
  h σ G H E _ fun v G1 H1 g dv => by
    cases dv
    refine ⟨a, rfl, ?_⟩
    cases a with
    | true => exact iteT (h2 rfl σ G1 H1 (E.grow g) _ fun v2 G2 H2 g2 d2 => k v2 G2 H2 (g.trans g2) d2)
    | false => exact iteF (k (.bl false) G1 H1 g (.bl false))
theorem dp_orV {a b : Bool} (h : DP K ta ρ (.bool a)) (h2 : a = false → DP K tb ρ (.bool b)) : DP K (tOrV ta tb) ρ (.bool (a || b)) := fun σ G H E T k =>
  h σ G H E _ fun v G1 H1 g dv => by
    cases dv
    refine ⟨a, rfl, ?_⟩
    cases a with
    | false => exact iteF (h2 rfl σ G1 H1 (E.grow g) _ fun v2 G2 H2 g2 d2 => k v2 G2 H2 (g.trans g2) d2)
    | true => exact iteT (k (.bl true) G1 H1 g (.bl true))
theorem dp_notV {a : Bool} (h : DP K ta ρ (.bool a)) : DP K (tNotV ta) ρ (.bool (!a)) := fun σ G H E T k =>
  h σ G H E _ fun v G1 H1 g dv => by
    cases dv
    exact ⟨a, rfl, k (.bl (!a)) G1 H1 g (.bl _)⟩
theorem de_if (h : DT K t ρ fun b ρ1 => if b = true then DE K ta ρ1 Q else DE K tb ρ1 Q) : DE K (tIf t ta tb) ρ Q := fun σ G H E T k =>
  h σ G H E _ fun b ρ1 G1 H1 q s1 E1 => by
    cases b with
    | true => exact iteT ((by simpa using q : DE K ta ρ1 Q) σ G1 H1 E1 _ fun v2 c ρ2 G2 H2 q2 s2 E2 => k v2 c ρ2 G2 H2 q2 (s1.trans s2) E2)
    | false => exact iteF ((by simpa using q : DE K tb ρ1 Q) σ G1 H1 E1 _ fun v2 c ρ2 G2 H2 q2 s2 E2 => k v2 c ρ2 G2 H2 q2 (s1.trans s2) E2)
theorem dp_if {b : Bool} (h : DTP K t ρ b) (h1 : b = true → DP K ta ρ d) (h2 : b = false → DP K tb ρ d) : DP K (tIf t ta tb) ρ d := fun σ G H E T k =>
  h σ G H E _ fun G1 H1 g => by
    cases b with
    | true => exact iteT (h1 rfl σ G1 H1 (E.grow g) _ fun v2 G2 H2 g2 d2 => k v2 G2 H2 (g.trans g2) d2)
    | false => exact iteF (h2 rfl σ G1 H1 (E.grow g) _ fun v2 G2 H2 g2 d2 => k v2 G2 H2 (g.trans g2) d2)
/-- by a proposition -/
theorem dp_ite {p : Prop} [Decidable p] (h : DTP K t ρ (decide p)) (h1 : p → DP K ta ρ d) (h2 : ¬ p → DP K tb ρ e) : DP K (tIf t ta tb) ρ (if p then d else e) := by
  by_cases z : p
  · rw [if_pos z]
    exact dp_if h (fun _ => h1 z) (fun y => absurd z (of_decide_eq_false y))
  · rw [if_neg z]
    exact dp_if h (fun y => absurd (of_decide_eq_true y) z) (fun _ => h2 z)
/-- a < b < c -/
theorem dp_chain {a b : Bool} {x y z : D} (ha : DP K ta ρ x) (hb : DP K tb ρ y) (hr : R2D K r x y fun g => g = .bool a) (hc : a = true → DP K tc ρ z) (hr' : a = true → R2D K r' y z fun g => g = .bool b) : DP K (tChain r r' ta tb tc) ρ (.bool (a && b)) := fun σ G H E T k =>
  ha σ G H E _ fun v G1 H1 g1 dv => by
    have E1 := E.grow g1
    refine hb σ G1 H1 E1 _ fun w G2 H2 g2 dw => ?_
    refine hr G2 H2 v w g2.s (dp_mono g2.g dv) dw _ fun q f G3 H3 e g dq => ?_
    subst e
    cases dq
    refine ⟨a, rfl, ?_⟩
    have E3 := (E1.grow g2).grow g
    cases a with
    | true =>
      refine iteT (hc rfl σ G3 H3 E3 _ fun u G4 H4 g4 du => ?_)
      exact hr' rfl G4 H4 w u g4.s (dp_mono g4.g (dp_mono g.g dw)) du _ fun q f G5 H5 e g5 dq => by subst e; exact k q G5 H5 ((((g1.trans g2).trans g).trans g4).trans g5) dq
    | false => exact iteF (k (.bl false) G3 H3 ((g1.trans g2).trans g) (.bl false))
end
end DL

/-! Statements, loops, comprehensions, defs over data. -/
namespace DL
open PySem PySem.Spec PyProof.Rows L2

structure Po where
  nx : List Sl → Prop
  rt : D → List Sl → Prop
  bk : List Sl → Prop := fun _ => False
  ct : List Sl → Prop := fun _ => False
  /-- a fresh list is handed back, not yet known -/
  rn : List D → List Sl → Prop := fun _ _ => False
/-- the wanted ends follow from P -/
structure Zo (K : Fg) (Z : Ends) (P : Po) (ρ : List Sl) (G H : Hp) : Prop where
  nx : ∀ σ' ρ' G' H', P.nx ρ' → Step ρ G H ρ' G' H' → EnvOk K G' H' σ' ρ' → Z.nx σ' H'
  rt : ∀ v d σ' ρ' G' H', P.rt d ρ' → Step ρ G H ρ' G' H' → EnvOk K G' H' σ' ρ' → Dp K G' v d → Z.rt v H'
  bk : ∀ σ' ρ' G' H', P.bk ρ' → Step ρ G H ρ' G' H' → EnvOk K G' H' σ' ρ' → Z.bk σ' H'
  ct : ∀ σ' ρ' G' H', P.ct ρ' → Step ρ G H ρ' G' H' → EnvOk K G' H' σ' ρ' → Z.ct σ' H'
  rn : ∀ p ds vs σ' ρ' G' H', P.rn ds ρ' → Step ρ G H ρ' G' H' → EnvOk K G' H' σ' ρ' → H p = none → G' p = none → H' p = some (.lst vs) → ¬ Cell ρ' p → DpAll K G' vs ds → Z.rt (.ref p) H'
def DS (K : Fg) (ts : TS) (ρ : List Sl) (P : Po) : Prop := ∀ (σ : L2.St) (G H : Hp) (Z : Ends), EnvOk K G H σ ρ → Zo K Z P ρ G H → ts Z σ H
def DG (K : Fg) (g : TG) (d : D) (ρ : List Sl) (Q : List Sl → Prop) : Prop :=
  ∀ (σ : L2.St) (G H : Hp) (v : V), EnvOk K G H σ ρ → Dp K G v d → ∀ T : L2.St → Hp → Prop, (∀ σ' ρ' G' H', Q ρ' → Step ρ G H ρ' G' H' → EnvOk K G' H' σ' ρ' → T σ' H') → g v σ H T
def DGs (K : Fg) (g : TGs) (ds : List D) (ρ : List Sl) (Q : List Sl → Prop) : Prop :=
  ∀ (σ : L2.St) (G H : Hp) (vs : List V), EnvOk K G H σ ρ → DpAll K G vs ds → ∀ T : L2.St → Hp → Prop, (∀ σ' ρ' G' H', Q ρ' → Step ρ G H ρ' G' H' → EnvOk K G' H' σ' ρ' → T σ' H') → g vs σ H T
section
variable {K : Fg} {ρ ρ1 : List Sl} {ta tb te : TE} {c : TT} {t u tu tw rest : TS} {d : D} {P : Po}
theorem Zo.step {Z : Ends} {G H G1 H1 : Hp} (z : Zo K Z P ρ G H) (s : Step ρ G H ρ1 G1 H1) : Zo K Z P ρ1 G1 H1 where
  nx := fun σ' ρ' G' H' p s' e => z.nx σ' ρ' G' H' p (s.trans s') e
  rt := fun v d σ' ρ' G' H' p s' e => z.rt v d σ' ρ' G' H' p (s.trans s') e
  bk := fun σ' ρ' G' H' p s' e => z.bk σ' ρ' G' H' p (s.trans s') e
  ct := fun σ' ρ' G' H' p s' e => z.ct σ' ρ' G' H' p (s.trans s') e
  rn := fun p ds vs σ' ρ' G' H' q s' e hp gp h1 nc dv => z.rn p ds vs σ' ρ' G' H' q (s.trans s') e (s.dom p hp) gp h1 nc dv
theorem ds_seq (h : DS K t ρ { P with nx := fun ρ' => DS K u ρ' P }) : DS K (tSeq t u) ρ P := fun σ G H Z E z =>
  h σ G H { Z with nx := u Z } E { nx := fun σ' ρ' G' H' p s e => p σ' G' H' Z e (z.step s), rt := z.rt, bk := z.bk, ct := z.ct, rn := z.rn }
theorem ds_next (h : P.nx ρ) : DS K tNext ρ P := fun σ G H Z E z => z.nx σ ρ G H h (.refl _ _ _) E
theorem ds_brk (h : P.bk ρ) : DS K tBreak ρ P := fun σ G H Z E z => z.bk σ ρ G H h (.refl _ _ _) E
theorem ds_cont (h : P.ct ρ) : DS K tCont ρ P := fun σ G H Z E z => z.ct σ ρ G H h (.refl _ _ _) E
theorem ds_drop (h : DE K te ρ fun _ ρ1 => P.nx ρ1) : DS K (tDrop te) ρ P := fun σ G H Z E z =>
  h σ G H E _ fun v d ρ1 G1 H1 q s e _ => z.nx σ ρ1 G1 H1 q s e
theorem ds_ret (h : DE K te ρ P.rt) : DS K (tRet te) ρ P := fun σ G H Z E z =>
  h σ G H E _ fun v d ρ1 G1 H1 q s e dv => z.rt v d σ ρ1 G1 H1 q s e dv
theorem ds_retp (h : DP K te ρ d) (q : P.rt d ρ) : DS K (tRet te) ρ P := ds_ret (DE.of h q)
theorem ds_retN (h : P.rt .none ρ) : DS K tRetN ρ P := fun σ G H Z E z => z.rt .non .none σ ρ G H h (.refl _ _ _) E .non
theorem ds_if (h : DT K c ρ fun b ρ1 => if b = true then DS K tu ρ1 P else DS K tw ρ1 P) : DS K (tIfS c tu tw) ρ P := fun σ G H Z E z =>
  h σ G H E _ fun b ρ1 G1 H1 q s e => by
    cases b with
    | true => exact iteT ((by simpa using q : DS K tu ρ1 P) σ G1 H1 Z e (z.step s))
    | false => exact iteF ((by simpa using q : DS K tw ρ1 P) σ G1 H1 Z e (z.step s))
theorem ds_ifp {b : Bool} (h : DTP K c ρ b) (h1 : b = true → DS K tu ρ P) (h2 : b = false → DS K tw ρ P) : DS K (tIfS c tu tw) ρ P := ds_if (DT.of h (by
  cases b with
  | true => exact iteT (h1 rfl)
  | false => exact iteF (h2 rfl)))
theorem ds_never (h : False) : DS K tNever ρ P := h.elim
theorem ds_weak {P' : Po} (h : DS K t ρ P') (n : ∀ ρ', P'.nx ρ' → P.nx ρ') (r : ∀ d ρ', P'.rt d ρ' → P.rt d ρ') (b : ∀ ρ', P'.bk ρ' → P.bk ρ') (k : ∀ ρ', P'.ct ρ' → P.ct ρ') (rn : ∀ d ρ', P'.rn d ρ' → P.rn d ρ') : DS K t ρ P := fun σ G H Z E z =>
  h σ G H Z E ⟨fun _ _ _ _ p => z.nx _ _ _ _ (n _ p), fun _ _ _ _ _ _ p => z.rt _ _ _ _ _ _ (r _ _ p), fun _ _ _ _ p => z.bk _ _ _ _ (b _ p), fun _ _ _ _ p => z.ct _ _ _ _ (k _ p), fun _ _ _ _ _ _ _ p => z.rn _ _ _ _ _ _ _ (rn _ _ p)⟩
theorem dg_name {i : Nat} {Q : List Sl → Prop} (h : Q (ρ.set i (.va d))) : DG K (gName i) d ρ Q := fun σ G H v E dv T k =>
  k (σ.set i (some v)) _ G H h ((Step.refl ρ G H).set i d) (E.set i dv)
theorem dgs_nil {Q : List Sl → Prop} (h : Q ρ) : DGs K gNil [] ρ Q := fun σ G H vs E dv T k => by
  cases dv
  exact ⟨rfl, k σ ρ G H h (.refl _ _ _) E⟩
theorem dgs_cons {g : TG} {gs : TGs} {ds : List D} {Q : List Sl → Prop} (h : DG K g d ρ fun ρ1 => DGs K gs ds ρ1 Q) : DGs K (gCons g gs) (d :: ds) ρ Q := fun σ G H vs E dv T k => by
  cases dv with
  | cons a b => exact ⟨_, _, rfl, h σ G H _ E a _ fun σ1 ρ1 G1 H1 q s e => q σ1 G1 H1 _ e (dpa_mono s.g b) T fun σ2 ρ2 G2 H2 q2 s2 e2 => k σ2 ρ2 G2 H2 q2 (s.trans s2) e2⟩
theorem dg_tup {gs : TGs} {n : Nat} {ds : List D} {Q : List Sl → Prop} (h : DGs K gs ds ρ Q) (hn : ds.length = n := by rfl) : DG K (gTup K n gs) (.tuple ds) ρ Q := fun σ G H v E dv T k => by
  cases dv with
  | tup a b => exact ⟨_, _, rfl, sqt_mono E.sub a, by rw [dpa_len b]; exact hn, h σ G H _ E b T k⟩
theorem ds_asg {g : TG} (h : DE K te ρ fun d ρ1 => DG K g d ρ1 P.nx) : DS K (tAsg te g) ρ P := fun σ G H Z E z =>
  h σ G H E _ fun v d ρ1 G1 H1 q s e dv => q σ G1 H1 v e dv _ fun σ2 ρ2 G2 H2 q2 s2 e2 => z.nx σ2 ρ2 G2 H2 q2 (s.trans s2) e2
/-- x = e; the rest -/
theorem ds_let {i : Nat} (h : DP K te ρ d) (k : DS K rest (ρ.set i (.va d)) P) : DS K (tSeq (tAsg te (gName i)) rest) ρ P := ds_seq (ds_asg (DE.of h (dg_name k)))
theorem ds_letE {i : Nat} (h : DE K te ρ fun d ρ1 => DS K rest (ρ1.set i (.va d)) P) : DS K (tSeq (tAsg te (gName i)) rest) ρ P := ds_seq (ds_asg (h.mono fun _ _ k => dg_name k))
theorem ds_letG {g : TG} (h : DP K te ρ d) (k : DG K g d ρ fun ρ1 => DS K rest ρ1 P) : DS K (tSeq (tAsg te g) rest) ρ P := ds_seq (ds_asg (DE.of h k))
theorem ds_when {b : Bool} (h : DTP K c ρ b) (h1 : b = true → DS K tu ρ { P with nx := fun ρ' => DS K rest ρ' P }) (h2 : b = false → DS K rest ρ P) : DS K (tSeq (tIfS c tu tNext) rest) ρ P :=
  ds_seq (ds_ifp h h1 fun e => ds_next (h2 e))
theorem ds_ifq {p : Prop} [Decidable p] (h : DTP K c ρ (decide p)) (h1 : p → DS K tu ρ P) (h2 : ¬ p → DS K tw ρ P) : DS K (tIfS c tu tw) ρ P :=
  ds_ifp h (fun e => h1 (of_decide_eq_true e)) (fun e => h2 (of_decide_eq_false e))
theorem ds_whenq {p : Prop} [Decidable p] (h : DTP K c ρ (decide p)) (h1 : p → DS K tu ρ { P with nx := fun ρ' => DS K rest ρ' P }) (h2 : ¬ p → DS K rest ρ P) : DS K (tSeq (tIfS c tu tNext) rest) ρ P :=
  ds_when h (fun e => h1 (of_decide_eq_true e)) (fun e => h2 (of_decide_eq_false e))
/-- a, b = e, f -/
theorem ds_par {i j : Nat} {ta : TA} (h : DA K ta ρ fun ds ρ1 => ∃ d e, ds = [d, e] ∧ P.nx ((ρ1.set i (.va d)).set j (.va e))) : DS K (tPar i j ta) ρ P := fun σ G H Z E z =>
  h σ G H E _ fun vs ds ρ1 G1 H1 ⟨d, e, q, p⟩ s E1 dv => by
    subst q
    cases dv with
    | cons a b => cases b with
      | cons b c => cases c; exact ⟨_, _, rfl, z.nx _ _ G1 H1 p ((s.set i d).set j e) ((E1.set i a).set j b)⟩
theorem ds_parp {i j : Nat} {d e : D} {ta : TA} (h : DAP K ta ρ [d, e]) (k : DS K rest ((ρ.set i (.va d)).set j (.va e)) P) : DS K (tSeq (tPar i j ta) rest) ρ P := ds_seq (ds_par (DA.of h ⟨d, e, rfl, k⟩))

/-! ### while -/
theorem ds_while {S : Type} (f : S → List Sl) (J : S → Prop) (m : S → Nat) (s0 : S) (e0 : ρ = f s0) (h0 : J s0)
    {tb' : TS} (hs : ∀ s, J s → DT K c (f s) fun b ρ2 => if b = true then DS K tb' ρ2 ⟨fun ρ3 => ∃ s', ρ3 = f s' ∧ J s' ∧ m s' < m s, P.rt, P.nx, fun ρ3 => ∃ s', ρ3 = f s' ∧ J s' ∧ m s' < m s, P.rn⟩ else P.nx ρ2) : DS K (tWhile c tb') ρ P := fun σ G H Z E z => by
  refine ⟨fun k σ1 H1 => ∃ s G1, m s = k ∧ J s ∧ Step ρ G H (f s) G1 H1 ∧ EnvOk K G1 H1 σ1 (f s), ⟨m s0, s0, G, rfl, h0, e0 ▸ .refl _ _ _, e0 ▸ E⟩, ?_⟩
  rintro k σ1 H1 ⟨s, G1, rfl, j, st, E1⟩
  refine hs s j σ1 G1 H1 E1 _ fun b ρ2 G2 H2 q s2 E2 => ?_
  cases b with
  | true =>
    refine iteT ?_
    rw [if_pos rfl] at q
    have s12 := st.trans s2
    refine ⟨fun σ' H' => ∃ s' G', J s' ∧ m s' < m s ∧ Step ρ G H (f s') G' H' ∧ EnvOk K G' H' σ' (f s'), fun σ' H' ⟨s', G', a, b, c, d⟩ => ⟨m s', b, s', G', rfl, a, c, d⟩, ?_⟩
    refine q σ1 G2 H2 _ E2 ⟨?_, ?_, ?_, ?_, fun p ds vs σ' ρ' G' H' q s3 e3 hp gp h1 nc dv => z.rn p ds vs σ' ρ' G' H' q (s12.trans s3) e3 (s12.dom p hp) gp h1 nc dv⟩
    · rintro σ' ρ' G' H' ⟨s', rfl, a, b⟩ s3 e3
      exact ⟨s', G', a, b, s12.trans s3, e3⟩
    · intro v d σ' ρ' G' H' p s3 e3 dv
      exact z.rt v d σ' ρ' G' H' p (s12.trans s3) e3 dv
    · intro σ' ρ' G' H' p s3 e3
      exact z.nx σ' ρ' G' H' p (s12.trans s3) e3
    · rintro σ' ρ' G' H' ⟨s', rfl, a, b⟩ s3 e3
      exact ⟨s', G', a, b, s12.trans s3, e3⟩
  | false => exact iteF (z.nx σ1 ρ2 G2 H2 (by simpa using q) (st.trans s2) E2)

/-! ### what is walked -/
structure ItOk (K : Fg) (G : Hp) (J : It) (ds : List D) : Prop where
  go : ∀ (i : Nat) (d : D) (G' H' : Hp), ds[i]? = some d → Same G G' → Same G' H' → J.go i H' ∧ ∀ x H2, J.yld i H' x H2 → ∃ G2, Grow G' H' G2 H2 ∧ Dp K G2 x d
  stop : ∀ (G' H' : Hp), Same G G' → Same G' H' → J.stop ds.length H'
theorem ItOk.mono {G G' : Hp} {J : It} {ds : List D} (h : ItOk K G J ds) (e : Same G G') : ItOk K G' J ds :=
  ⟨fun i d G1 H1 q a b => h.go i d G1 H1 q (e.trans a) b, fun G1 H1 a b => h.stop G1 H1 (e.trans a) b⟩
def DI (K : Fg) (wi : TI) (ρ : List Sl) (Q : List D → List Sl → Prop) : Prop :=
  ∀ (σ : L2.St) (G H : Hp), EnvOk K G H σ ρ → ∀ R : It → Hp → Prop, (∀ J ds ρ' G' H', Q ds ρ' → Step ρ G H ρ' G' H' → EnvOk K G' H' σ ρ' → ItOk K G' J ds → R J H') → wi σ H R
theorem DI.mono {wi : TI} {Q Q' : List D → List Sl → Prop} (h : DI K wi ρ Q) (k : ∀ ds ρ', Q ds ρ' → Q' ds ρ') : DI K wi ρ Q' := fun σ G H E R q => h σ G H E R fun J ds ρ' G' H' z => q J ds ρ' G' H' (k ds ρ' z)
theorem di_rng1 {ta : TA} {Q : List D → List Sl → Prop} (h : DA K ta ρ fun ds ρ1 => ∃ n : Int, ds = [.int n] ∧ -(2 ^ 62) ≤ n ∧ n < 2 ^ 62 ∧ Q ((List.range n.toNat).map fun i : Nat => PyData.int (i : Int)) ρ1) : DI K (iRng1 ta) ρ Q := fun σ G H E R k =>
  h σ G H E _ fun vs ds ρ1 G1 H1 ⟨n, e, a, b, q⟩ s E1 dv => by
    subst e
    cases dv with
    | cons x y =>
      cases x; cases y
      refine ⟨n, rfl, a, b, k _ _ ρ1 G1 H1 q s E1 ⟨fun i d G' H' e a b => ?_, fun G' H' a b => ?_⟩⟩
      · have hi : i < n.toNat := by
          have := (List.getElem?_eq_some_iff.mp e).1
          rw [List.length_map, List.length_range] at this
          exact this
        refine ⟨hi, fun x H2 y => ?_⟩
        obtain ⟨rfl, rfl⟩ := y
        refine ⟨G', .refl b, ?_⟩
        rw [List.getElem?_map, List.getElem?_range hi] at e
        cases e
        rw [Int.zero_add]
        exact .int _
      · show n.toNat ≤ _
        rw [List.length_map, List.length_range]
        exact Nat.le_refl _
theorem di_rng2 {ta : TA} {Q : List D → List Sl → Prop} (h : DA K ta ρ fun ds ρ1 => ∃ m n : Int, ds = [.int m, .int n] ∧ (-(2 ^ 62) ≤ m ∧ m < 2 ^ 62 ∧ -(2 ^ 62) ≤ n ∧ n < 2 ^ 62) ∧ Q ((List.range (n - m).toNat).map fun i : Nat => PyData.int (m + (i : Int))) ρ1) : DI K (iRng2 ta) ρ Q := fun σ G H E R k =>
  h σ G H E _ fun vs ds ρ1 G1 H1 ⟨m, n, e, a, q⟩ s E1 dv => by
    subst e
    cases dv with
    | cons x y =>
      cases y with
      | cons y z =>
        cases x; cases y; cases z
        refine ⟨m, n, rfl, a, k _ _ ρ1 G1 H1 q s E1 ⟨fun i d G' H' e a b => ?_, fun G' H' a b => ?_⟩⟩
        · have hi : i < (n - m).toNat := by
            have := (List.getElem?_eq_some_iff.mp e).1
            rw [List.length_map, List.length_range] at this
            exact this
          refine ⟨hi, fun x H2 y => ?_⟩
          obtain ⟨rfl, rfl⟩ := y
          refine ⟨G', .refl b, ?_⟩
          rw [List.getElem?_map, List.getElem?_range hi] at e
          cases e
          exact .int _
        · show (n - m).toNat ≤ _
          rw [List.length_map, List.length_range]
          exact Nat.le_refl _
theorem di_list {tl : TE} {Q : List D → List Sl → Prop} (h : DE K tl ρ fun d ρ1 => ∃ ds, d = .list ds ∧ Q ds ρ1) : DI K (iList K tl) ρ Q := fun σ G H E R k =>
  h σ G H E _ fun v d ρ1 G1 H1 ⟨ds, e, q⟩ s E1 dv => by
    subst e
    cases dv with
    | @lst a vs _ x y =>
      refine ⟨a, rfl, ⟨vs, E1.sub.seq x⟩, k _ ds ρ1 G1 H1 q s E1 ⟨fun i d G' H' e a b => ?_, fun G' H' a b => ⟨vs, b.seq (a.seq x), Nat.le_of_eq (dpa_len y)⟩⟩⟩
      obtain ⟨v, e1, e2⟩ := dpa_get y e
      refine ⟨⟨vs, v, b.seq (a.seq x), e1⟩, fun z H2 w => ?_⟩
      obtain ⟨rfl, w⟩ := w
      cases e1.symm.trans (w vs (b.seq (a.seq x)))
      exact ⟨G', .refl b, dp_mono a e2⟩
theorem di_tup {tl : TE} {Q : List D → List Sl → Prop} (h : DE K tl ρ fun d ρ1 => ∃ ds, d = .tuple ds ∧ Q ds ρ1) : DI K (iTup K tl) ρ Q := fun σ G H E R k =>
  h σ G H E _ fun v d ρ1 G1 H1 ⟨ds, e, q⟩ s E1 dv => by
    subst e
    cases dv with
    | @tup a vs _ x y =>
      refine ⟨a, rfl, ⟨vs, sqt_mono E1.sub x⟩, k _ ds ρ1 G1 H1 q s E1 ⟨fun i d G' H' e a b => ?_, fun G' H' a b => ⟨vs, sqt_mono b (sqt_mono a x), Nat.le_of_eq (dpa_len y)⟩⟩⟩
      obtain ⟨v, e1, e2⟩ := dpa_get y e
      refine ⟨⟨vs, v, sqt_mono b (sqt_mono a x), e1⟩, fun z H2 w => ?_⟩
      obtain ⟨rfl, w⟩ := w
      cases e1.symm.trans (w vs (sqt_mono b (sqt_mono a x)))
      exact ⟨G', .refl b, dp_mono a e2⟩
/-- for g in ..: I by the turn -/
theorem ds_for {wi : TI} {g : TG} {tb : TS} (I : List D → Nat → List Sl → Prop) (h : DI K wi ρ fun ds ρ1 => I ds 0 ρ1 ∧
    (∀ i d ρ2, ds[i]? = some d → I ds i ρ2 → DG K g d ρ2 fun ρ3 => DS K tb ρ3 ⟨I ds (i + 1), P.rt, P.nx, I ds (i + 1), P.rn⟩) ∧ ∀ ρ2, I ds ds.length ρ2 → P.nx ρ2) : DS K (tFor wi g tb) ρ P := fun σ G H Z E z =>
  h σ G H E _ fun J ds ρ1 G1 H1 ⟨q0, qs, qd⟩ s1 E1 it => by
    refine ⟨fun i m σ2 H2 => m = ds.length - i ∧ i ≤ ds.length ∧ ∃ ρ2 G2, I ds i ρ2 ∧ Step ρ G H ρ2 G2 H2 ∧ Same G1 G2 ∧ EnvOk K G2 H2 σ2 ρ2, ⟨ds.length, by simp, Nat.zero_le _, ρ1, G1, q0, s1, .refl _, E1⟩, ?_⟩
    rintro i m σ2 H2 ⟨rfl, hi, ρ2, G2, a, b, c, d⟩
    by_cases hlt : i < ds.length
    · obtain ⟨e1, e2⟩ := it.go i ds[i] G2 H2 (List.getElem?_eq_getElem hlt) c d.sub
      refine .inr ⟨e1, fun σ' H' => ∃ ρ' G', I ds (i + 1) ρ' ∧ Step ρ G H ρ' G' H' ∧ Same G1 G' ∧ EnvOk K G' H' σ' ρ', fun σ' H' ⟨ρ', G', x⟩ => ⟨ds.length - (i + 1), by omega, rfl, hlt, ρ', G', x⟩, fun x H3 y => ?_⟩
      obtain ⟨G3, gr, dx⟩ := e2 x H3 y
      have s3 := b.trans gr.step
      have E3 := d.grow gr
      refine qs i ds[i] ρ2 (List.getElem?_eq_getElem hlt) a σ2 G3 H3 x E3 dx _ fun σ4 ρ4 G4 H4 q4 s4 E4 => ?_
      have c4 : Same G1 G4 := (c.trans gr.g).trans s4.g
      refine q4 σ4 G4 H4 _ E4 ⟨?_, ?_, ?_, ?_, fun p ds vs σ' ρ' G' H' q s5 e5 hp gp h1 nc dv => z.rn p ds vs σ' ρ' G' H' q ((s3.trans s4).trans s5) e5 ((s3.trans s4).dom p hp) gp h1 nc dv⟩
      · intro σ' ρ' G' H' p s5 e5
        exact ⟨ρ', G', p, (s3.trans s4).trans s5, c4.trans s5.g, e5⟩
      · intro v d σ' ρ' G' H' p s5 e5 dv
        exact z.rt v d σ' ρ' G' H' p ((s3.trans s4).trans s5) e5 dv
      · intro σ' ρ' G' H' p s5 e5
        exact z.nx σ' ρ' G' H' p ((s3.trans s4).trans s5) e5
      · intro σ' ρ' G' H' p s5 e5
        exact ⟨ρ', G', p, (s3.trans s4).trans s5, c4.trans s5.g, e5⟩
    · have e : i = ds.length := by omega
      subst e
      exact .inl ⟨it.stop G2 H2 c d.sub, z.nx σ2 ρ2 G2 H2 (qd ρ2 a) b d⟩
end

/-! ### comprehensions -/
def wipeS (ρ : List Sl) : List Nat → List Sl
  | [] => ρ
  | v :: vs => (wipeS ρ vs).set v .no
theorem wipeS_length (ρ : List Sl) : ∀ vs : List Nat, (wipeS ρ vs).length = ρ.length
  | [] => rfl
  | v :: vs => by unfold wipeS; rw [List.length_set, wipeS_length ρ vs]
theorem wipeS_some {ρ : List Sl} {i : Nat} {x : Sl} (hx : ∃ d, x = .va d ∨ ∃ a, ∃ ds, x = .ce a ds) : ∀ {vs : List Nat}, (wipeS ρ vs)[i]? = some x → ρ[i]? = some x ∧ i ∉ vs
  | [], h => ⟨h, by simp⟩
  | v :: vs, h => by
    unfold wipeS at h
    by_cases hi : v = i
    · subst hi
      by_cases hv : v < (wipeS ρ vs).length
      · rw [List.getElem?_set_self hv] at h; obtain ⟨d, z | ⟨a, ds, z⟩⟩ := hx <;> (subst z; cases h)
      · rw [List.getElem?_eq_none (by simpa using hv)] at h; cases h
    · rw [List.getElem?_set_ne hi] at h
      obtain ⟨h1, h2⟩ := wipeS_some hx h
      exact ⟨h1, by simp only [List.mem_cons, not_or]; exact ⟨fun e => hi e.symm, h2⟩⟩
section
variable {K : Fg} {ρ ρ1 : List Sl} {ta tb te : TE} {tt : TT}
/-- a block's store stays within its own names -/
def GW (g : TG) (vs : List Nat) : Prop := ∀ v σ H (T : L2.St → Hp → Prop), g v σ H (fun σ2 H2 => wipe σ2 vs = wipe σ vs → T σ2 H2) → g v σ H fun σ2 H2 => wipe σ2 vs = wipe σ vs ∧ T σ2 H2
theorem wipe_set {σ : L2.St} {j : Nat} {x : Option V} : ∀ {vs : List Nat}, j ∈ vs → wipe (σ.set j x) vs = wipe σ vs
  | v :: vs, h => by
    unfold wipe
    by_cases hj : j ∈ vs
    · rw [wipe_set hj]
    · have e : j = v := by
        rcases List.mem_cons.mp h with e | h
        · exact e
        · exact absurd h hj
      subst e
      have key : ∀ (us : List Nat) (y : Option V), j ∉ us → (wipe (σ.set j x) us) = (wipe σ us).set j x := by
        intro us y hu
        induction us with
        | nil => rfl
        | cons u us ih =>
          have h1 : u ≠ j := fun e => hu (by rw [e]; exact List.mem_cons_self)
          have h2 : j ∉ us := fun m => hu (List.mem_cons_of_mem _ m)
          unfold wipe
          rw [ih h2, List.set_comm _ _ h1.symm]
      rw [key vs none hj, List.set_set]
theorem gw_name {j : Nat} {vs : List Nat} (h : j ∈ vs := by decide) : GW (gName j) vs := fun v σ H T k => ⟨wipe_set h, k (wipe_set h)⟩
def GWs (g : TGs) (vs : List Nat) : Prop := ∀ us σ H (T : L2.St → Hp → Prop), g us σ H (fun σ2 H2 => wipe σ2 vs = wipe σ vs → T σ2 H2) → g us σ H fun σ2 H2 => wipe σ2 vs = wipe σ vs ∧ T σ2 H2
theorem gws_nil {vs : List Nat} : GWs gNil vs := fun us σ H T k => ⟨k.1, rfl, k.2 rfl⟩
theorem gws_cons {j : Nat} {gs : TGs} {vs : List Nat} (hj : j ∈ vs) (h : GWs gs vs) : GWs (gCons (gName j) gs) vs := fun us σ H T k => by
  obtain ⟨v, r, e, q⟩ := k
  refine ⟨v, r, e, ?_⟩
  have e2 : wipe (σ.set j (some v)) vs = wipe σ vs := wipe_set hj
  have q2 := h r (σ.set j (some v)) H T (by rw [e2]; exact q)
  rw [e2] at q2
  exact q2
theorem gw_tup {K : Fg} {n : Nat} {gs : TGs} {vs : List Nat} (h : GWs gs vs) : GW (gTup K n gs) vs := fun v σ H T k => by
  obtain ⟨a, xs, e, hs, hl, q⟩ := k
  exact ⟨a, xs, e, hs, hl, h xs σ H T q⟩
theorem EnvOk.wiped {G H : Hp} {σ σ2 : L2.St} {vs : List Nat} (E : EnvOk K G H σ ρ) (hw : ∀ i, i ∉ vs → σ2[i]? = σ[i]?) (hl : σ2.length = σ.length) : EnvOk K G H σ2 (wipeS ρ vs) where
  sub := E.sub
  va := fun i d h => by
    obtain ⟨a, b⟩ := wipeS_some ⟨d, .inl rfl⟩ h
    rw [hw i b]; exact E.va i d a
  ce := fun i p ds h => by
    obtain ⟨a, b⟩ := wipeS_some ⟨.none, .inr ⟨p, ds, rfl⟩⟩ h
    rw [hw i b]; exact E.ce i p ds a
  dj := fun i j p ds es h k => E.dj i j p ds es (wipeS_some ⟨.none, .inr ⟨p, ds, rfl⟩⟩ h).1 (wipeS_some ⟨.none, .inr ⟨p, es, rfl⟩⟩ k).1
  len := by rw [wipeS_length, hl]; exact E.len
theorem cell_wipe {vs : List Nat} {b : Addr} (h : Cell (wipeS ρ vs) b) : Cell ρ b := by
  obtain ⟨i, ds, h⟩ := h
  exact ⟨i, ds, (wipeS_some ⟨.none, .inr ⟨b, ds, rfl⟩⟩ h).1⟩
/-- a fresh list, not yet known: its items are -/
def DN (K : Fg) (te : TE) (ρ : List Sl) (Q : List D → List Sl → Prop) : Prop :=
  ∀ (σ : L2.St) (G H : Hp), EnvOk K G H σ ρ → ∀ T : VK, (∀ p ds vs ρ' G' H', Q ds ρ' → Step ρ G H ρ' G' H' → EnvOk K G' H' σ ρ' → H p = none → G' p = none → H' p = some (.lst vs) → ¬ Cell ρ' p → DpAll K G' vs ds → T (.ref p) H') → te σ H T
theorem de_new {Q : D → List Sl → Prop} (h : DN K te ρ fun ds ρ1 => Q (.list ds) ρ1) : DE K te ρ Q := fun σ G H E T k =>
  h σ G H E T fun p ds vs ρ1 G1 H1 q s E1 hp gp h1 nc dv => by
    have sm : Same G1 (upd G1 p (.lst vs)) := fun b o hb => by
      rw [upd_ne (ne_of_none hb gp)]; exact hb
    refine k (.ref p) (.list ds) ρ1 (upd G1 p (.lst vs)) H1 q ⟨s.g.trans sm, s.fr, s.dom, fun b o hb => ?_, s.cl⟩ ⟨fun b o hb => ?_, fun i d hi => ?_, fun i a es hi => ?_, E1.dj, E1.len⟩ (.lst (.of upd_same) (dpa_mono sm dv))
    · by_cases z : b = p
      · subst z; exact .inr (.inl hp)
      · rw [upd_ne z] at hb; exact s.nw b o hb
    · by_cases z : b = p
      · subst z; rw [upd_same] at hb; rw [h1]; exact hb
      · rw [upd_ne z] at hb; exact E1.sub b o hb
    · obtain ⟨v, a, b⟩ := E1.va i d hi
      exact ⟨v, a, dp_mono sm b⟩
    · obtain ⟨a1, a2, us, a3, a4⟩ := E1.ce i a es hi
      refine ⟨a1, ?_, us, a3, dpa_mono sm a4⟩
      rw [upd_ne (fun z => nc ⟨i, es, by rw [← z]; exact hi⟩)]
      exact a2
/-- [e for g in .. if ..] -/
theorem dn_lc {wi : TI} {g : TG} {vs : List Nat} {Q : List D → List Sl → Prop} (I : List D → Nat → List D → List Sl → Prop) (hg : GW g vs) (h : DI K wi ρ fun ds ρ1 => ds.length < sizeLine ∧ I ds 0 [] ρ1 ∧
    (∀ i d acc ρ2, ds[i]? = some d → I ds i acc ρ2 → DG K g d (wipeS ρ2 vs) fun ρ3 => DT K tt ρ3 fun b ρ4 => if b = true then DE K te ρ4 fun e ρ5 => I ds (i + 1) (acc ++ [e]) (wipeS ρ5 vs) else I ds (i + 1) acc (wipeS ρ4 vs)) ∧ ∀ acc ρ2, I ds ds.length acc ρ2 → Q acc ρ2) :
    DN K (tLc wi g tt te vs) ρ Q := fun σ G H E T k =>
  h σ G H E _ fun J ds ρ1 G1 H1 ⟨hz, q0, qs, qd⟩ s1 E1 it => by
    intro L hL
    have hL0 : H L = none := s1.dom L hL
    have key0 : G1 L = none := none_back E1.sub hL
    refine ⟨fun i m H2 => m = ds.length - i ∧ i ≤ ds.length ∧ ∃ ρ2 G2 acc us, I ds i acc ρ2 ∧ acc.length ≤ i ∧ Step ρ G H ρ2 G2 H2 ∧ Same G1 G2 ∧ EnvOk K G2 H2 σ ρ2 ∧ G2 L = none ∧ H2 L = some (.lst us) ∧ ¬ Cell ρ2 L ∧ DpAll K G2 us acc,
      ⟨ds.length, by simp, Nat.zero_le _, ρ1, G1, [], [], q0, Nat.le_refl _, ?_, .refl _, ?_, key0, upd_same, ?_, .nil⟩, ?_⟩
    · refine ⟨s1.g, fun b o hb hc => ?_, fun b hb => ?_, s1.nw, s1.cl⟩
      · rw [upd_ne (ne_of_none hb hL0)]; exact s1.fr b o hb hc
      · by_cases z : b = L
        · subst z; exact hL0
        · rw [upd_ne z] at hb; exact s1.dom b hb
    · refine ⟨fun b o hb => ?_, E1.va, fun i a es hi => ?_, E1.dj, E1.len⟩
      · rw [upd_ne (ne_of_none hb key0)]; exact E1.sub b o hb
      · obtain ⟨a1, a2, us, a3, a4⟩ := E1.ce i a es hi
        exact ⟨a1, a2, us, by rw [upd_ne (ne_of_none a3 hL)]; exact a3, a4⟩
    · rintro ⟨i, es, hi⟩
      obtain ⟨_, _, us, a3, _⟩ := E1.ce i L es hi
      rw [hL] at a3; cases a3
    · rintro i m H2 ⟨rfl, hi, ρ2, G2, acc, us, a, al, b, c, d, gl, hl, nc, du⟩
      by_cases hlt : i < ds.length
      · obtain ⟨e1, e2⟩ := it.go i ds[i] G2 H2 (List.getElem?_eq_getElem hlt) c d.sub
        refine .inr ⟨e1, fun H' => ∃ ρ' G' acc' us', I ds (i + 1) acc' ρ' ∧ acc'.length ≤ i + 1 ∧ Step ρ G H ρ' G' H' ∧ Same G1 G' ∧ EnvOk K G' H' σ ρ' ∧ G' L = none ∧ H' L = some (.lst us') ∧ ¬ Cell ρ' L ∧ DpAll K G' us' acc',
          fun H' ⟨ρ', G', acc', us', x⟩ => ⟨ds.length - (i + 1), by omega, rfl, hlt, ρ', G', acc', us', x⟩, fun x H3 y => ?_⟩
        obtain ⟨G3, gr, dx⟩ := e2 x H3 y
        have E3 : EnvOk K G3 H3 (wipe σ vs) (wipeS ρ2 vs) := (d.grow gr).wiped (fun i hi => wipe_out hi) (wipe_length σ vs)
        have ww : wipe (wipe σ vs) vs = wipe σ vs := by
          have aux : ∀ (us ws : List Nat), (∀ x ∈ us, x ∈ ws) → ∀ τ : L2.St, wipe (wipe τ us) ws = wipe τ ws := by
            intro us
            induction us with
            | nil => intro ws _ τ; rfl
            | cons u us ih =>
              intro ws hs τ
              show wipe ((wipe τ us).set u none) ws = _
              rw [wipe_set (hs u List.mem_cons_self)]
              exact ih ws (fun x hx => hs x (List.mem_cons_of_mem _ hx)) τ
          exact aux vs vs (fun _ h => h) σ
        show g x (wipe σ vs) H3 fun σ2 H2 => wipe σ2 vs = wipe σ vs ∧ _
        have gw := hg x (wipe σ vs) H3
        rw [ww] at gw
        refine gw _ ?_
        refine qs i ds[i] acc ρ2 (List.getElem?_eq_getElem hlt) a (wipe σ vs) G3 H3 x E3 dx _ fun σ4 ρ4 G4 H4 q4 s4 E4 w4 => ?_
        have s3 : Step ρ2 G2 H2 (wipeS ρ2 vs) G3 H3 := ⟨gr.g, fun b o h _ => gr.h b o h, fun b h => none_back gr.h h, fun b o h => (gr.nw b o h).elim .inl (.inr ∘ .inl), fun b h => .inl (cell_wipe h)⟩
        have out : ∀ i, i ∉ vs → σ4[i]? = σ[i]? := fun i hi => by rw [← wipe_out (σ := σ4) hi, w4, wipe_out hi]
        have len4 : σ4.length = σ.length := by rw [← wipe_length σ4 vs, w4, wipe_length]
        -- the new list stays out of what is known
        have keep : ∀ {ρ5 G5 H5}, Step ρ2 G2 H2 ρ5 G5 H5 → G5 L = none ∧ H5 L = some (.lst us) ∧ ¬ Cell ρ5 L := fun {ρ5 G5 H5} s5 => by
          refine ⟨?_, s5.fr L _ hl nc, fun z => ?_⟩
          · cases q : G5 L with
            | none => rfl
            | some o =>
              rcases s5.nw L o q with z | z | z
              · rw [gl] at z; cases z
              · rw [hl] at z; cases z
              · exact absurd z nc
          · rcases s5.cl L z with z | z
            · exact nc z
            · rw [hl] at z; cases z
        have s24 := s3.trans s4
        refine q4 σ4 G4 H4 E4 _ fun bb ρ5 G5 H5 q5 s5 E5 => ?_
        have s25 := s24.trans s5
        cases bb with
        | false =>
          rw [if_neg (by decide)] at q5 ⊢
          obtain ⟨k1, k2, k3⟩ := keep s25
          have s25' : Step ρ2 G2 H2 (wipeS ρ5 vs) G5 H5 := ⟨s25.g, s25.fr, s25.dom, s25.nw, fun b h => s25.cl b (cell_wipe h)⟩
          exact ⟨wipeS ρ5 vs, G5, acc, us, q5, by omega, b.trans s25', c.trans s25.g, E5.wiped (fun i hi => (out i hi).symm) len4.symm, k1, k2, fun z => k3 (cell_wipe z), dpa_mono s25.g du⟩
        | true =>
          rw [if_pos rfl] at q5 ⊢
          refine q5 σ4 G5 H5 E5 _ fun y e ρ6 G6 H6 q6 s6 E6 dy => ?_
          have s26 := s25.trans s6
          obtain ⟨k1, k2, k3⟩ := keep s26
          have s26' : Step ρ2 G2 H2 (wipeS ρ6 vs) G6 H6 := ⟨s26.g, s26.fr, s26.dom, s26.nw, fun b h => s26.cl b (cell_wipe h)⟩
          have E7 : EnvOk K G6 H6 σ (wipeS ρ6 vs) := E6.wiped (fun i hi => (out i hi).symm) len4.symm
          refine ⟨us, k2, Nat.lt_of_le_of_lt (by rw [dpa_len du]; omega : us.length ≤ ds.length) hz, wipeS ρ6 vs, G6, acc ++ [e], us ++ [y], q6, by rw [List.length_append]; show acc.length + 1 ≤ _; omega, ?_, c.trans s26.g, ?_, k1, upd_same, fun z => k3 (cell_wipe z), dpa_app (dpa_mono s26.g du) (.cons dy .nil)⟩
          · have b2 := b.trans s26'
            refine ⟨b2.g, fun x o hx hc => ?_, fun x hx => ?_, b2.nw, b2.cl⟩
            · rw [upd_ne (ne_of_none hx hL0)]; exact b2.fr x o hx hc
            · by_cases z : x = L
              · subst z; exact hL0
              · rw [upd_ne z] at hx; exact b2.dom x hx
          · refine ⟨fun x o hx => ?_, E7.va, fun j a es hj => ?_, E7.dj, E7.len⟩
            · rw [upd_ne (ne_of_none hx k1)]; exact E7.sub x o hx
            · obtain ⟨a1, a2, ws, a3, a4⟩ := E7.ce j a es hj
              refine ⟨a1, a2, ws, ?_, a4⟩
              rw [upd_ne (fun z => k3 (cell_wipe ⟨j, es, by rw [← z]; exact hj⟩))]
              exact a3
      · have e : i = ds.length := by omega
        subst e
        exact .inl ⟨it.stop G2 H2 c d.sub, k L acc us ρ2 G2 H2 (qd acc ρ2 a) b d hL0 gl hl nc du⟩
end
end DL

/-! Defs and calls over data; own lists. -/
namespace DL
open PySem PySem.Spec PyProof.Rows L2

/-! ### pure defs -/
abbrev Call := List D → (D → Prop) → Prop
def spP (K : Fg) (c : Call) : Sp := fun vs H Q _ => ∃ (G : Hp) (ds : List D) (T : D → Prop), Same G H ∧ DpAll K G vs ds ∧ c ds T ∧ ∀ v d G' H', T d → Grow G H G' H' → Dp K G' v d → Q v H'
def initS (N : List Str) (ds : List D) : List Sl := ds.map .va ++ List.replicate (N.length - ds.length) .no
section
variable {K : Fg} {ρ : List Sl} {ta tb te : TE} {tt : TT} {P : Po}
theorem de_call {c : Call} {ta : TA} {Q : D → List Sl → Prop} (h : DA K ta ρ fun ds ρ1 => c ds fun d => Q d ρ1) : DE K (tCall (spP K c) [] E0 ta) ρ Q := fun σ G H E T k =>
  h σ G H E _ fun vs ds ρ1 G1 H1 q s E1 dv => by
    rw [List.append_nil]
    exact ⟨G1, ds, _, E1.sub, dv, q, fun v d G' H' t g dd => k v d ρ1 G' H' t (s.trans g.step) (E1.grow g) dd⟩
theorem dp_call {c : Call} {ta : TA} {ds : List D} {d : D} (h : DAP K ta ρ ds) (q : c ds fun e => e = d) : DP K (tCall (spP K c) [] E0 ta) ρ d := fun σ G H E T k =>
  h σ G H E _ fun vs G1 H1 g1 dv => by
    rw [List.append_nil]
    exact ⟨G1, ds, _, g1.s, dv, q, fun v d' G' H' t g dd => by subst t; exact k v G' H' (g1.trans g) dd⟩
theorem initS_va : ∀ {ds : List D} {n i : Nat} {x : Sl}, (ds.map Sl.va ++ List.replicate n Sl.no)[i]? = some x → (∃ d, ds[i]? = some d ∧ x = .va d) ∨ x = .no
  | [], n, i, x, h => .inr (by
    rw [List.map_nil, List.nil_append, List.getElem?_replicate] at h
    split at h
    · exact (Option.some.inj h).symm
    · cases h)
  | d :: ds, n, 0, x, h => .inl ⟨d, rfl, (Option.some.inj h).symm⟩
  | d :: ds, n, i + 1, x, h => initS_va (ds := ds) (n := n) (i := i) h
theorem start_get {vs : List V} {n i : Nat} {v : V} (h : vs[i]? = some v) : (vs.map some ++ List.replicate n (none : Option V))[i]? = some (some v) := by
  have hl := (List.getElem?_eq_some_iff.mp h).1
  rw [List.getElem?_append_left (by rw [List.length_map]; exact hl), List.getElem?_map, h]
  rfl
theorem env_start {N : List Str} {G H : Hp} {vs : List V} {ds : List D} (e : Same G H) (dv : DpAll K G vs ds) : EnvOk K G H (L2.start N vs) (initS N ds) where
  sub := e
  va := fun i d h => by
    rcases initS_va h with ⟨d', h1, h2⟩ | h2
    · cases h2
      obtain ⟨v, a, b⟩ := dpa_get dv h1
      exact ⟨v, start_get a, b⟩
    · cases h2
  ce := fun i a es h => by
    rcases initS_va h with ⟨d', h1, h2⟩ | h2 <;> cases h2
  dj := fun i j a es fs h _ => by
    rcases initS_va h with ⟨d', h1, h2⟩ | h2 <;> cases h2
  len := by
    have := dpa_len dv
    unfold L2.start initS
    rw [List.length_append, List.length_append, List.length_map, List.length_map, List.length_replicate, List.length_replicate, this]
theorem nocell_init {N : List Str} {ds : List D} {b : Addr} : ¬ Cell (initS N ds) b := by
  rintro ⟨i, es, h⟩
  rcases initS_va h with ⟨d', h1, h2⟩ | h2 <;> cases h2
theorem Step.grows {G H G' H' : Hp} {ρ' : List Sl} (s : Step ρ G H ρ' G' H') (h : ∀ b, ¬ Cell ρ b) (e : Same G' H') : Grow G H G' H' :=
  ⟨s.g, fun b o q => s.fr b o q (h b), e, fun b o q => by
    rcases s.nw b o q with z | z | z
    · exact .inl z
    · exact .inr z
    · exact absurd z (h b)⟩
variable {Pg : Program} {w : World} {mg : Str → Option Value} {base : Heap}
/-! ### defs that hand back a fresh list -/
def spN (K : Fg) (c : List D → (List D → Prop) → Prop) : Sp := fun vs H Q _ => ∃ (G : Hp) (ds : List D) (T : List D → Prop), Same G H ∧ DpAll K G vs ds ∧ c ds T ∧
  ∀ p es us G' H', T es → Grow G H G' H' → H p = none → G' p = none → H' p = some (.lst us) → DpAll K G' us es → Q (.ref p) H'
theorem dn_call {c : List D → (List D → Prop) → Prop} {ta : TA} {Q : List D → List Sl → Prop} (h : DA K ta ρ fun ds ρ1 => c ds fun d => Q d ρ1) : DN K (tCall (spN K c) [] E0 ta) ρ Q := fun σ G H E T k =>
  h σ G H E _ fun vs ds ρ1 G1 H1 q s E1 dv => by
    rw [List.append_nil]
    refine ⟨G1, ds, _, E1.sub, dv, q, fun p es us G' H' t g hp gp h1 dd => k p es us ρ1 G' H' t (s.trans g.step) (E1.grow g) (s.dom p hp) gp h1 ?_ dd⟩
    rintro ⟨i, fs, hi⟩
    obtain ⟨_, _, ws, a3, _⟩ := E1.ce i p fs hi
    rw [hp] at a3; cases a3
/-! ### defs whose first argument is an own list of the caller's -/
structure GrowX (p : Addr) (G H G' H' : Hp) : Prop where
  g : Same G G'
  s : Same G' H'
  fr : ∀ b o, b ≠ p → H b = some o → H' b = some o
  dom : ∀ b, H' b = none → H b = none
  nw : ∀ b o, G' b = some o → G b = some o ∨ H b = none
  gp : G' p = none
abbrev CallC := List D → List D → (D → List D → Prop) → Prop
def spC (K : Fg) (c : CallC) : Sp := fun vs H Q _ => ∃ (G : Hp) (p : Addr) (us vs' : List V) (cs ds : List D) (T : D → List D → Prop), vs = .ref p :: vs' ∧ Same G H ∧ G p = none ∧ H p = some (.lst us) ∧ DpAll K G us cs ∧ DpAll K G vs' ds ∧ c cs ds T ∧
  ∀ v d es ws G' H', T d es → GrowX p G H G' H' → H' p = some (.lst ws) → DpAll K G' ws es → Dp K G' v d → Q v H'
theorem get_set {α : Type} {l : List α} {i j : Nat} {x y z : α} (h : l[i]? = some x) (e : (l.set i y)[j]? = some z) : (i = j ∧ y = z) ∨ (i ≠ j ∧ l[j]? = some z) := by
  have hi := (List.getElem?_eq_some_iff.mp h).1
  by_cases q : i = j
  · subst q
    rw [List.getElem?_set_self hi] at e
    exact .inl ⟨rfl, Option.some.inj e⟩
  · rw [List.getElem?_set_ne q] at e
    exact .inr ⟨q, e⟩
/-- an own list is changed -/
theorem EnvOk.cell {G H G' H' : Hp} {σ : L2.St} {i : Nat} {p : Addr} {cs es : List D} {ws : List V} (E : EnvOk K G H σ ρ) (hi : ρ[i]? = some (.ce p cs)) (g : GrowX p G H G' H') (hp : H' p = some (.lst ws)) (dw : DpAll K G' ws es) :
    EnvOk K G' H' σ (ρ.set i (.ce p es)) ∧ Step ρ G H (ρ.set i (.ce p es)) G' H' := by
  have stay : ∀ b us, b ≠ p → G b = none → H b = some (.lst us) → G' b = none := fun b us hb gb hb2 => by
    cases q : G' b with
    | none => rfl
    | some o =>
      rcases g.nw b o q with z | z
      · rw [gb] at z; cases z
      · rw [hb2] at z; cases z
  refine ⟨⟨g.s, fun j d hj => ?_, fun j a ds hj => ?_, fun j k a ds fs hj hk => ?_, by rw [List.length_set]; exact E.len⟩, ⟨g.g, fun b o hb hc => g.fr b o (fun z => hc ⟨i, cs, by rw [z]; exact hi⟩) hb, g.dom, fun b o hb => (g.nw b o hb).elim .inl (.inr ∘ .inl), fun b hb => ?_⟩⟩
  · rcases get_set hi hj with ⟨_, z⟩ | ⟨_, z⟩
    · cases z
    · obtain ⟨v, a, b⟩ := E.va j d z
      exact ⟨v, a, dp_mono g.g b⟩
  · rcases get_set hi hj with ⟨z, z2⟩ | ⟨z1, z⟩
    · cases z2; subst z
      exact ⟨(E.ce _ _ _ hi).1, g.gp, ws, hp, dw⟩
    · obtain ⟨a1, a2, us, a3, a4⟩ := E.ce j a ds z
      have hne : a ≠ p := fun e => z1 (E.dj i j p cs ds hi (by rw [← e]; exact z))
      exact ⟨a1, stay a us hne a2 a3, us, g.fr a _ hne a3, dpa_mono g.g a4⟩
  · rcases get_set hi hj with ⟨z, z2⟩ | ⟨z1, z⟩
    · cases z2
      rcases get_set hi hk with ⟨y, y2⟩ | ⟨y1, y⟩
      · rw [← z, ← y]
      · exact z.symm.trans (E.dj i k p cs fs hi y)
    · rcases get_set hi hk with ⟨y, y2⟩ | ⟨y1, y⟩
      · cases y2
        exact (E.dj j i p ds cs z hi).trans y
      · exact E.dj j k a ds fs z y
  · obtain ⟨j, fs, hj⟩ := hb
    rcases get_set hi hj with ⟨z, z2⟩ | ⟨z1, z⟩
    · cases z2; exact .inl ⟨i, cs, hi⟩
    · exact .inl ⟨j, fs, z⟩
theorem de_callC {c : CallC} {i : Nat} {p : Addr} {cs : List D} {tr : TA} {Q : D → List Sl → Prop} (hi : ρ[i]? = some (.ce p cs)) (h : DA K tr ρ fun ds ρ1 => ∃ cs1, ρ1[i]? = some (.ce p cs1) ∧ c cs1 ds fun d es => Q d (ρ1.set i (.ce p es))) :
    DE K (tCall (spC K c) [] E0 (tCons (tVar i) tr)) ρ Q := fun σ G H E T k => by
  obtain ⟨a1, a2, us, a3, a4⟩ := E.ce i p cs hi
  refine ⟨.ref p, a1, h σ G H E _ fun vs ds ρ1 G1 H1 ⟨cs1, h1, q⟩ s E1 dv => ?_⟩
  show spC K c ((V.ref p :: vs) ++ []) H1 T E0
  rw [List.append_nil]
  obtain ⟨b1, b2, ws, b3, b4⟩ := E1.ce i p cs1 h1
  refine ⟨G1, p, ws, vs, cs1, ds, _, rfl, E1.sub, b2, b3, b4, dv, q, fun v d es us' G' H' t g hp dw dd => ?_⟩
  obtain ⟨e2, s2⟩ := E1.cell h1 g hp dw
  exact k v d _ G' H' t (s.trans s2) e2 dd
def initC (N : List Str) (p : Addr) (cs ds : List D) : List Sl := .ce p cs :: (ds.map .va ++ List.replicate (N.length - (ds.length + 1)) .no)
theorem env_startC {N : List Str} {G H : Hp} {p : Addr} {us vs' : List V} {cs ds : List D} (e : Same G H) (gp : G p = none) (hp : H p = some (.lst us)) (du : DpAll K G us cs) (dv : DpAll K G vs' ds) : EnvOk K G H (L2.start N (.ref p :: vs')) (initC N p cs ds) := by
  refine ⟨e, fun i d h => ?_, fun i a es h => ?_, fun i j a es fs h h2 => ?_, ?_⟩
  · cases i with
    | zero => cases h
    | succ i =>
      rcases initS_va (show (ds.map Sl.va ++ _)[i]? = some _ from h) with ⟨d', h1, h2⟩ | h2
      · cases h2
        obtain ⟨v, a, b⟩ := dpa_get dv h1
        exact ⟨v, start_get (vs := vs') a, b⟩
      · cases h2
  · cases i with
    | zero => cases h; exact ⟨rfl, gp, us, hp, du⟩
    | succ i => rcases initS_va (show (ds.map Sl.va ++ _)[i]? = some _ from h) with ⟨_, _, z⟩ | z <;> cases z
  · cases i with
    | zero => cases j with
      | zero => rfl
      | succ j => rcases initS_va (show (ds.map Sl.va ++ _)[j]? = some _ from h2) with ⟨_, _, z⟩ | z <;> cases z
    | succ i => rcases initS_va (show (ds.map Sl.va ++ _)[i]? = some _ from h) with ⟨_, _, z⟩ | z <;> cases z
  · have := dpa_len dv
    unfold L2.start initC
    simp only [List.length_append, List.length_map, List.length_replicate, List.length_cons, this]
    omega
/-! ### own lists within a def -/
/-- data without lists -/
def lf : D → Bool
  | .list _ => false
  | .tuple ds => lfs ds
  | .dict _ => false
  | _ => true
where lfs : List D → Bool
  | [] => true
  | d :: ds => lf d && lfs ds
def cut (G : Hp) (p : Addr) : Hp := fun b => if b = p then none else G b
mutual
theorem dp_cut {G : Hp} {p : Addr} {vs : List V} (h : G p = some (.lst vs)) : ∀ {d : D} {v : V}, lf d = true → Dp K G v d → Dp K (cut G p) v d
  | .none, _, _, h => by cases h; exact .non
  | .bool _, _, _, h => by cases h; exact .bl _
  | .int _, _, _, h => by cases h; exact .int _
  | .str _, _, _, h => by cases h; exact .str _
  | .list _, _, l, _ => by cases l
  | .dict _, _, l, _ => by cases l
  | .tuple ds, _, l, q => by
    cases q with
    | tup a b =>
      refine .tup ?_ (dpa_cut h (by unfold lf at l; exact l) b)
      have ne : ∀ {a : Addr} {o : HO}, G a = some o → o ≠ .lst vs → (cut G p) a = some o := fun {a o} e n => by
        unfold cut
        rw [if_neg (fun z => by subst z; rw [h] at e; exact n (Option.some.inj e).symm)]
        exact e
      rcases a with (a | ⟨o, a⟩) | a
      · exact .inl (.inl (ne a (fun z => nomatch z)))
      · exact .inl (.inr ⟨o, ne a (fun z => nomatch z)⟩)
      · exact .inr a
theorem dpa_cut {G : Hp} {p : Addr} {vs : List V} (h : G p = some (.lst vs)) : ∀ {ds : List D} {us : List V}, lf.lfs ds = true → DpAll K G us ds → DpAll K (cut G p) us ds
  | [], _, _, h => by cases h; exact .nil
  | d :: ds, _, l, q => by
    unfold lf.lfs at l
    rw [Bool.and_eq_true] at l
    cases q with
    | cons a b => exact .cons (dp_cut h l.1 a) (dpa_cut h l.2 b)
end
theorem EnvOk.froze {G H : Hp} {σ : L2.St} {i : Nat} {p : Addr} {cs : List D} {us : List V} (E : EnvOk K G H σ ρ) (hi : ρ[i]? = some (.ce p cs)) (hp : H p = some (.lst us)) (du : DpAll K G us cs) :
    EnvOk K (upd G p (.lst us)) H σ (ρ.set i (.va (.list cs))) ∧ Step ρ G H (ρ.set i (.va (.list cs))) (upd G p (.lst us)) H := by
  obtain ⟨a1, a2, us', a3, a4⟩ := E.ce i p cs hi
  have sm : Same G (upd G p (.lst us)) := fun b o h => by rw [upd_ne (ne_of_none h a2)]; exact h
  refine ⟨⟨fun b o h => ?_, fun j d hj => ?_, fun j a ds hj => ?_, fun j k a ds fs hj hk => ?_, by rw [List.length_set]; exact E.len⟩, ⟨sm, fun _ _ h _ => h, fun _ h => h, fun b o h => ?_, fun b h => .inl (cell_set h)⟩⟩
  · by_cases z : b = p
    · subst z; rw [upd_same] at h; rw [hp]; exact h
    · rw [upd_ne z] at h; exact E.sub b o h
  · rcases get_set hi hj with ⟨z, z2⟩ | ⟨_, z⟩
    · cases z2; subst z
      exact ⟨_, a1, .lst (.of upd_same) (dpa_mono sm du)⟩
    · obtain ⟨v, a, b⟩ := E.va j d z
      exact ⟨v, a, dp_mono sm b⟩
  · rcases get_set hi hj with ⟨z, z2⟩ | ⟨z1, z⟩
    · cases z2
    · obtain ⟨b1, b2, ws, b3, b4⟩ := E.ce j a ds z
      have hne : a ≠ p := fun e => z1 (E.dj i j p cs ds hi (by rw [← e]; exact z))
      exact ⟨b1, by rw [upd_ne hne]; exact b2, ws, b3, dpa_mono sm b4⟩
  · rcases get_set hi hj with ⟨z, z2⟩ | ⟨z1, z⟩
    · cases z2
    · rcases get_set hi hk with ⟨y, y2⟩ | ⟨y1, y⟩
      · cases y2
      · exact E.dj j k a ds fs z y
  · by_cases z : b = p
    · subst z; exact .inr (.inr ⟨i, cs, hi⟩)
    · rw [upd_ne z] at h; exact .inl h
/-- an own list is only read from here on -/
theorem ds_freeze {t : TS} {i : Nat} {p : Addr} {cs : List D} (hi : ρ[i]? = some (.ce p cs)) (h : DS K t (ρ.set i (.va (.list cs))) P) : DS K t ρ P := fun σ G H Z E z => by
  obtain ⟨a1, a2, us, a3, a4⟩ := E.ce i p cs hi
  obtain ⟨e, s⟩ := E.froze hi a3 a4
  exact h σ _ H Z e (z.step s)
/-- an own list is read within an expression -/
theorem dp_peek {d : D} {i : Nat} {p : Addr} {cs : List D} (hi : ρ[i]? = some (.ce p cs)) (h : DP K te (ρ.set i (.va (.list cs))) d) (hd : lf d = true) : DP K te ρ d := fun σ G H E T k => by
  obtain ⟨a1, a2, us, a3, a4⟩ := E.ce i p cs hi
  obtain ⟨e, s⟩ := E.froze hi a3 a4
  refine h σ _ H e T fun v G2 H2 g2 dd => ?_
  have hG2 : G2 p = some (.lst us) := g2.g p _ upd_same
  refine k v (cut G2 p) H2 ⟨fun b o hb => ?_, g2.h, fun b o hb => ?_, fun b o hb => ?_⟩ (dp_cut hG2 hd dd)
  · have ne := ne_of_none hb a2
    unfold cut
    rw [if_neg ne]
    exact g2.g b o (by rw [upd_ne ne]; exact hb)
  · unfold cut at hb
    split at hb
    · cases hb
    · exact g2.s b o hb
  · unfold cut at hb
    split at hb
    · cases hb
    · rename_i hne
      rcases g2.nw b o hb with z | z
      · rw [upd_ne hne] at z; exact .inl z
      · exact .inr z
end
end DL

/-! Operators and built-ins over data. -/
namespace DL
open PySem PySem.Spec PyProof.Rows L2
section
variable {K : Fg} {ρ : List Sl} {ta tb te tc : TE} {tt : TT} {P : Po} {i j : Int} {d e f : D}
theorem r2_I0 {g : Int → Int → V} {Q : D → Prop} (h : ∀ G, Dp K G (g i j) f) (q : Q f) : R2D K (rI0 g) (.int i) (.int j) Q := fun G H x y s a b T k => by
  cases a; cases b
  exact ⟨i, j, rfl, rfl, k _ f G H q (.refl s) (h G)⟩
theorem r2_I {C : Int → Int → Prop} {g : Int → Int → V} {Q : D → Prop} (hc : C i j) (h : ∀ G, Dp K G (g i j) f) (q : Q f) : R2D K (rI C g) (.int i) (.int j) Q := fun G H x y s a b T k => by
  cases a; cases b
  exact ⟨i, j, rfl, rfl, hc, k _ f G H q (.refl s) (h G)⟩
abbrev rAddI : R2 := rI0 fun i j => .int (i + j)
abbrev rSubI : R2 := rI0 fun i j => .int (i - j)
abbrev rMulI : R2 := rI CMulW fun i j => .int (i * j)
def CDivX (_ j : Int) : Prop := j ≠ 0 ∧ j.natAbs.log2 < 9000
abbrev rDivI : R2 := rI CDivX fun i j => .int (i.fdiv j)
abbrev rModI : R2 := rI (fun _ j => j ≠ 0) fun i j => .int (i.fmod j)
abbrev rLtI : R2 := rI0 fun i j => .bl (decide (i < j))
abbrev rLeI : R2 := rI0 fun i j => .bl (decide (i ≤ j))
abbrev rGtI : R2 := rI0 fun i j => .bl (decide (j < i))
abbrev rGeI : R2 := rI0 fun i j => .bl (decide (j ≤ i))
def CPowX (i j : Int) : Prop := 0 ≤ j ∧ (Builtin.Int.intBits i : Int) * j ≤ 2 ^ 27
abbrev rPowI : R2 := rI CPowX fun i j => .int (i ^ j.toNat)
theorem op_fdivX {X : Cx} : OpR X (binaryOp .FloorDiv) rDivI := opI fun i j _ _ _ _ _ hc q => floordiv_int hc.1 q (.inl (PyProof.noPylong_of_log2 hc.2))
theorem op_powX {X : Cx} : OpR X (binaryOp .Pow) rPowI := opI fun _ _ _ _ _ _ _ hc q => pow_int hc.1 hc.2 q
theorem dp_add (ha : DP K ta ρ (.int i)) (hb : DP K tb ρ (.int j)) : DP K (tOp rAddI ta tb) ρ (.int (i + j)) := dp_op ha hb (r2_I0 (fun _ => .int _) rfl)
theorem dp_sub (ha : DP K ta ρ (.int i)) (hb : DP K tb ρ (.int j)) : DP K (tOp rSubI ta tb) ρ (.int (i - j)) := dp_op ha hb (r2_I0 (fun _ => .int _) rfl)
theorem dp_mul (ha : DP K ta ρ (.int i)) (hb : DP K tb ρ (.int j)) (hc : CMulW i j) : DP K (tOp rMulI ta tb) ρ (.int (i * j)) := dp_op ha hb (r2_I hc (fun _ => .int _) rfl)
theorem dp_div (ha : DP K ta ρ (.int i)) (hb : DP K tb ρ (.int j)) (hc : CDivX i j) : DP K (tOp rDivI ta tb) ρ (.int (i.fdiv j)) := dp_op ha hb (r2_I hc (fun _ => .int _) rfl)
theorem dp_mod (ha : DP K ta ρ (.int i)) (hb : DP K tb ρ (.int j)) (hc : j ≠ 0) : DP K (tOp rModI ta tb) ρ (.int (i.fmod j)) := dp_op ha hb (r2_I (C := fun _ j => j ≠ 0) hc (fun _ => .int _) rfl)
theorem dp_pow (ha : DP K ta ρ (.int i)) (hb : DP K tb ρ (.int j)) (hc : CPowX i j) : DP K (tOp rPowI ta tb) ρ (.int (i ^ j.toNat)) := dp_op ha hb (r2_I hc (fun _ => .int _) rfl)
theorem dp_lt (ha : DP K ta ρ (.int i)) (hb : DP K tb ρ (.int j)) : DP K (tOp rLtI ta tb) ρ (.bool (decide (i < j))) := dp_op ha hb (r2_I0 (fun _ => .bl _) rfl)
theorem dp_le (ha : DP K ta ρ (.int i)) (hb : DP K tb ρ (.int j)) : DP K (tOp rLeI ta tb) ρ (.bool (decide (i ≤ j))) := dp_op ha hb (r2_I0 (fun _ => .bl _) rfl)
theorem dp_gt (ha : DP K ta ρ (.int i)) (hb : DP K tb ρ (.int j)) : DP K (tOp rGtI ta tb) ρ (.bool (decide (j < i))) := dp_op ha hb (r2_I0 (fun _ => .bl _) rfl)
theorem dp_ge (ha : DP K ta ρ (.int i)) (hb : DP K tb ρ (.int j)) : DP K (tOp rGeI ta tb) ρ (.bool (decide (j ≤ i))) := dp_op ha hb (r2_I0 (fun _ => .bl _) rfl)
/-- by values alone: for uses where an operand draws -/
theorem r2_add {Q : D → Prop} (q : Q (.int (i + j))) : R2D K rAddI (.int i) (.int j) Q := r2_I0 (fun _ => .int _) q
theorem r2_sub {Q : D → Prop} (q : Q (.int (i - j))) : R2D K rSubI (.int i) (.int j) Q := r2_I0 (fun _ => .int _) q
theorem r2_mul {Q : D → Prop} (hc : CMulW i j) (q : Q (.int (i * j))) : R2D K rMulI (.int i) (.int j) Q := r2_I hc (fun _ => .int _) q
theorem r2_eqI {Q : D → Prop} (q : Q (.bool (decide (i = j)))) : R2D K rEq (.int i) (.int j) Q := fun G H x y s a b T k => by
  cases a; cases b
  refine ⟨rfl, ?_⟩
  have : decide (V.int i = V.int j) = decide (i = j) := decide_eq_decide.mpr ⟨V.int.inj, fun h => by rw [h]⟩
  rw [this]
  exact k _ _ G H q (.refl s) (.bl _)
theorem r2_neI {Q : D → Prop} (q : Q (.bool (!decide (i = j)))) : R2D K rNe (.int i) (.int j) Q := fun G H x y s a b T k => by
  cases a; cases b
  refine ⟨rfl, ?_⟩
  have : decide (V.int i = V.int j) = decide (i = j) := decide_eq_decide.mpr ⟨V.int.inj, fun h => by rw [h]⟩
  rw [this]
  exact k _ _ G H q (.refl s) (.bl _)
theorem dp_eqI (ha : DP K ta ρ (.int i)) (hb : DP K tb ρ (.int j)) : DP K (tOp rEq ta tb) ρ (.bool (decide (i = j))) := dp_op ha hb (r2_eqI rfl)
theorem dp_neI (ha : DP K ta ρ (.int i)) (hb : DP K tb ρ (.int j)) : DP K (tOp rNe ta tb) ρ (.bool (!decide (i = j))) := dp_op ha hb (r2_neI rfl)
theorem r2_eqD {Q : D → Prop} (h1 : SeqAt.shaped d = true) (h2 : SeqAt.shaped e = true) (q : Q (.bool (PyData.eqv d e))) : R2D K (rEqD K) d e Q := fun G H x y s a b T k =>
  ⟨d, e, dp_mono s a, dp_mono s b, h1, h2, k _ _ G H q (.refl s) (.bl _)⟩
theorem r2_neD {Q : D → Prop} (h1 : SeqAt.shaped d = true) (h2 : SeqAt.shaped e = true) (q : Q (.bool (!PyData.eqv d e))) : R2D K (rNeD K) d e Q := fun G H x y s a b T k =>
  ⟨d, e, dp_mono s a, dp_mono s b, h1, h2, k _ _ G H q (.refl s) (.bl _)⟩
theorem dp_eqD (ha : DP K ta ρ d) (hb : DP K tb ρ e) (h1 : SeqAt.shaped d = true) (h2 : SeqAt.shaped e = true) : DP K (tOp (rEqD K) ta tb) ρ (.bool (PyData.eqv d e)) := dp_op ha hb (r2_eqD h1 h2 rfl)
theorem dp_neD (ha : DP K ta ρ d) (hb : DP K tb ρ e) (h1 : SeqAt.shaped d = true) (h2 : SeqAt.shaped e = true) : DP K (tOp (rNeD K) ta tb) ρ (.bool (!PyData.eqv d e)) := dp_op ha hb (r2_neD h1 h2 rfl)
def isN : D → Bool
  | .none => true
  | _ => false
abbrev rIsN : R2 := fun x y H Q => y = .non ∧ Q (.bl (decide (x = .non))) H
abbrev rNotN : R2 := fun x y H Q => y = .non ∧ Q (.bl (!decide (x = .non))) H
theorem dec_non {G : Hp} {v : V} (a : Dp K G v d) : decide (v = .non) = isN d := by cases a <;> rfl
theorem dp_isN (ha : DP K ta ρ d) : DP K (tOp rIsN ta (tC .non)) ρ (.bool (isN d)) := dp_op ha dp_non fun G H x y s a b T k => by
  cases b
  refine ⟨rfl, ?_⟩
  rw [dec_non a]
  exact k _ _ G H rfl (.refl s) (.bl _)
theorem dp_notN (ha : DP K ta ρ d) : DP K (tOp rNotN ta (tC .non)) ρ (.bool (!isN d)) := dp_op ha dp_non fun G H x y s a b T k => by
  cases b
  refine ⟨rfl, ?_⟩
  rw [dec_non a]
  exact k _ _ G H rfl (.refl s) (.bl _)
theorem dp_notB {a b : Bool} (ha : DP K ta ρ (.bool a)) (hb : DP K tb ρ (.bool b)) : DP K (tOp rNotB ta tb) ρ (.bool (!decide (a = b))) := dp_op ha hb fun G H x y s p q T k => by
  cases p; cases q
  exact ⟨a, b, rfl, rfl, k _ _ G H rfl (.refl s) (.bl _)⟩
theorem dp_isB {a b : Bool} (ha : DP K ta ρ (.bool a)) (hb : DP K tb ρ (.bool b)) : DP K (tOp rIsB ta tb) ρ (.bool (decide (a = b))) := dp_op ha hb fun G H x y s p q T k => by
  cases p; cases q
  exact ⟨a, b, rfl, rfl, k _ _ G H rfl (.refl s) (.bl _)⟩
/-! ### True - False -/
theorem run_sub_bb (a b : Bool) : Gives (Builtin.«int.__sub__» ⟨[.bool a, .bool b], []⟩) (.int ((if a = true then (1 : Int) else 0) - (if b = true then (1 : Int) else 0))) :=
  .of_wp fun M A E s Q h => by obtain ⟨hp, g, d, tk, os⟩ := s; wp_walk; exact ⟨_, rfl, h⟩
def bi (b : Bool) : Int := if b = true then 1 else 0
def rSubB : R2 := fun x y H Q => ∃ a b : Bool, x = .bl a ∧ y = .bl b ∧ Q (.int (bi a - bi b)) H
theorem op_subB {X : Cx} : OpR X (binaryOp .Sub) rSubB := by
  intro pins s σ H x y v u Q I rx ry h
  obtain ⟨a, b, rfl, rfl, q⟩ := h
  cases rx; cases ry
  refine wpAny_binaryOp_same (op := .Sub) (T := "bool") (PySem.typeIs_bool s a) (PySem.typeIs_bool s b) F.fills_bool_sub F.slot_bool_sub (call_gives F.slot_bool_sub (PySem.typeIs_bool s a) F.entry_int_sub (F.args_int_sub_2 _ _) (run_sub_bb a b) (Made.post_and trivial ?_))
  exact ⟨.int (bi a - bi b), H, I.tok _, ⟨_, rfl⟩, q⟩
theorem dp_subB {a b : Bool} (ha : DP K ta ρ (.bool a)) (hb : DP K tb ρ (.bool b)) : DP K (tOp rSubB ta tb) ρ (.int (bi a - bi b)) := dp_op ha hb fun G H x y s p q T k => by
  cases p; cases q
  exact ⟨a, b, rfl, rfl, k _ _ G H rfl (.refl s) (.int _)⟩
/-! ### items -/
theorem atI_map {G : Hp} : ∀ {vs : List V} {ds : List D} {k : Int}, DpAll K G vs ds → atI ds k = some d → ∃ v, atI vs k = some v ∧ Dp K G v d := fun {vs ds k} h e => by
  unfold atI at e ⊢
  rw [dpa_len h]
  cases q : ixN ds.length k with
  | none => rw [q] at e; cases e
  | some j =>
    rw [q] at e
    exact dpa_get h e
theorem r2_ixT {ds : List D} {k : Int} {Q : D → Prop} (h : atI ds k = some d) (q : Q d) : R2D K (rIxT K) (.tuple ds) (.int k) Q := fun G H x y s a b T w => by
  cases b
  cases a with
  | tup h1 h2 =>
    obtain ⟨v, e1, e2⟩ := atI_map h2 h
    exact ⟨_, _, k, v, rfl, rfl, sqt_mono s h1, e1, w v d G H q (.refl s) e2⟩
theorem r2_ixL {ds : List D} {k : Int} {Q : D → Prop} (h : atI ds k = some d) (q : Q d) : R2D K (rIxL K) (.list ds) (.int k) Q := fun G H x y s a b T w => by
  cases b
  cases a with
  | lst h1 h2 =>
    obtain ⟨v, e1, e2⟩ := atI_map h2 h
    exact ⟨_, _, k, v, rfl, rfl, s.seq h1, e1, w v d G H q (.refl s) e2⟩
theorem dp_ixT {ds : List D} {k : Int} (ha : DP K ta ρ (.tuple ds)) (hb : DP K tb ρ (.int k)) (h : atI ds k = some d := by rfl) : DP K (tOp (rIxT K) ta tb) ρ d := dp_op ha hb (r2_ixT h rfl)
theorem dp_ixL {ds : List D} {k : Int} (ha : DP K ta ρ (.list ds)) (hb : DP K tb ρ (.int k)) (h : atI ds k = some d) : DP K (tOp (rIxL K) ta tb) ρ d := dp_op ha hb (r2_ixL h rfl)
/-! ### calls -/
abbrev rLen2 (K : Fg) : List V → Hp → VK → Prop := fun xs H Q => ∃ p ys, xs = [.ref p] ∧ (SqL K H p ys ∨ SqT K H p ys) ∧ Q (.int ys.length) H
theorem dp_lenT {ds : List D} (ha : DP K ta ρ (.tuple ds)) : DP K (tCB (rLen2 K) (tCons ta tNil)) ρ (.int (ds.length : Int)) := dp_cb (dap_cons ha dap_nil) fun G H vs s a T k => by
  cases a with
  | cons a b =>
    cases b
    cases a with
    | tup h1 h2 => exact ⟨_, _, rfl, .inr (sqt_mono s h1), by rw [dpa_len h2]; exact k _ _ G H rfl (.refl s) (.int _)⟩
theorem dp_lenL {ds : List D} (ha : DP K ta ρ (.list ds)) : DP K (tCB (rLen2 K) (tCons ta tNil)) ρ (.int (ds.length : Int)) := dp_cb (dap_cons ha dap_nil) fun G H vs s a T k => by
  cases a with
  | cons a b =>
    cases b
    cases a with
    | lst h1 h2 => exact ⟨_, _, rfl, .inl (s.seq h1), by rw [dpa_len h2]; exact k _ _ G H rfl (.refl s) (.int _)⟩
theorem dp_all {bs : List Bool} (ha : DP K ta ρ (.list (bs.map .bool))) : DP K (tCB (rAll K) (tCons ta tNil)) ρ (.bool (bs.all id)) := dp_cb (dap_cons ha dap_nil) fun G H vs s a T k => by
  cases a with
  | cons a b =>
    cases b
    cases a with
    | lst h1 h2 =>
      have e := dpa_bls h2
      subst e
      exact ⟨_, bs, rfl, s.seq h1, k _ _ G H rfl (.refl s) (.bl _)⟩
theorem rc_all {bs : List Bool} {Q : D → Prop} (q : Q (.bool (bs.all id))) : RCD K (rAll K) [.list (bs.map .bool)] Q := fun G H vs s a T k => by
  cases a with
  | cons a b =>
    cases b
    cases a with
    | lst h1 h2 =>
      have e := dpa_bls h2
      subst e
      exact ⟨_, bs, rfl, s.seq h1, k _ _ G H q (.refl s) (.bl _)⟩
theorem rc_gcd {Q : D → Prop} (q : Q (.int ((Nat.gcd i.natAbs j.natAbs : Nat) : Int))) : RCD K rGcd [.int i, .int j] Q := fun G H vs s a T k => by
  cases a with
  | cons a b =>
    cases a
    cases b with
    | cons b c => cases b; cases c; exact ⟨i, j, rfl, k _ _ G H q (.refl s) (.int _)⟩
theorem dp_gcd (ha : DP K ta ρ (.int i)) (hb : DP K tb ρ (.int j)) : DP K (tCB rGcd (tCons ta (tCons tb tNil))) ρ (.int ((Nat.gcd i.natAbs j.natAbs : Nat) : Int)) := dp_cb (dap_cons ha (dap_cons hb dap_nil)) (rc_gcd rfl)
/-- math.isqrt -/
def rIsqrt : List V → Hp → VK → Prop := fun vs H Q => ∃ a : Int, vs = [.int a] ∧ 0 ≤ a ∧ a.toNat.log2 < 13000 ∧ Q (.int ((Float64.isqrt a.toNat : Nat) : Int)) H
theorem cr_isqrt {X : Cx} : CallR X (.builtin "math.isqrt") rIsqrt := by
  intro pins s σ H vs us Q I r h
  obtain ⟨a, rfl, h0, h1, q⟩ := h
  cases r with
  | cons r r' =>
    cases r'
    obtain ⟨t, rfl⟩ := r
    refine PySem.call_function_meets PySem.W.MGF.kind_isqrt PySem.W.MGF.plain_isqrt PySem.W.MGF.entry_isqrt (PySem.W.MGF.args_isqrt _) (PySem.W.mg_run_isqrt a t (by omega) (by omega) ?_).meets ?_
    · intro z
      have : a.toNat.log2 / 30 ≤ 433 := by omega
      omega
    · exact ⟨.int _, H, I.tok _, ⟨_, rfl⟩, q⟩
theorem dp_isqrt (ha : DP K ta ρ (.int i)) (h0 : 0 ≤ i) (h1 : i.toNat.log2 < 13000) : DP K (tCB rIsqrt (tCons ta tNil)) ρ (.int ((Float64.isqrt i.toNat : Nat) : Int)) := dp_cb (dap_cons ha dap_nil) fun G H vs s a T k => by
  cases a with
  | cons a b => cases a; cases b; exact ⟨i, rfl, h0, h1, k _ _ G H rfl (.refl s) (.int _)⟩
abbrev rAbs : List V → Hp → VK → Prop := fun xs H Q => ∃ i, xs = [.int i] ∧ Q (.int (if i < 0 then -i else i)) H
theorem dp_abs (ha : DP K ta ρ (.int i)) : DP K (tCB rAbs (tCons ta tNil)) ρ (.int (i.natAbs : Int)) := dp_cb (dap_cons ha dap_nil) fun G H vs s a T k => by
  cases a with
  | cons a b =>
    cases a; cases b
    refine ⟨i, rfl, ?_⟩
    have : (if i < 0 then -i else i) = (i.natAbs : Int) := by split <;> omega
    rw [this]
    exact k _ _ G H rfl (.refl s) (.int _)
abbrev rInt1 : List V → Hp → VK → Prop := fun xs H Q => (∃ i, xs = [.int i] ∧ Q (.int i) H) ∨ ∃ k, xs = [.bl k] ∧ Q (.int (if k then 1 else 0)) H
theorem rc_int {Q : D → Prop} (q : Q (.int i)) : RCD K rInt1 [.int i] Q := fun G H vs s a T k => by
  cases a with
  | cons a b => cases a; cases b; exact .inl ⟨i, rfl, k _ _ G H q (.refl s) (.int _)⟩
theorem rc_intB {b : Bool} {Q : D → Prop} (q : Q (.int (if b then 1 else 0))) : RCD K rInt1 [.bool b] Q := fun G H vs s a T k => by
  cases a with
  | cons a c => cases a; cases c; exact .inr ⟨b, rfl, k _ _ G H q (.refl s) (.int _)⟩
theorem dp_intI (ha : DP K ta ρ (.int i)) : DP K (tCB rInt1 (tCons ta tNil)) ρ (.int i) := dp_cb (dap_cons ha dap_nil) (rc_int rfl)
theorem dp_intB {b : Bool} (ha : DP K ta ρ (.bool b)) : DP K (tCB rInt1 (tCons ta tNil)) ρ (.int (if b then 1 else 0)) := dp_cb (dap_cons ha dap_nil) (rc_intB rfl)
theorem de_intI {Q : D → List Sl → Prop} (h : DE K ta ρ fun d ρ1 => ∃ i, d = .int i ∧ Q (.int i) ρ1) : DE K (tCB rInt1 (tCons ta tNil)) ρ Q := de_cb (da_cons (h.mono fun d ρ1 ⟨i, e, q⟩ => da_nil (by subst e; exact rc_int q)))
theorem dp_neg (ha : DP K ta ρ (.int i)) : DP K (tUn (rU fun i => .int (-i)) ta) ρ (.int (-i)) := dp_un ha fun G H x s a T k => by
  cases a
  exact ⟨i, rfl, k _ _ G H rfl (.refl s) (.int _)⟩
/-! ### isinstance of a built-in type -/
def tyD : D → String
  | .none => "NoneType"
  | .bool _ => "bool"
  | .int _ => "int"
  | .str _ => "str"
  | .list _ => "list"
  | .tuple _ => "tuple"
  | .dict _ => "dict"
theorem tyx_of {H : Hp} {v : V} (h : Dp K H v d) : TyX K H v (.type (tyD d)) := by
  cases h with
  | non => exact .base .non
  | bl b => exact .base (.bl b)
  | int i => exact .base (.int i)
  | str x => exact .base (.str x)
  | lst a b =>
    rcases a with (a | ⟨o, a⟩) | ⟨o, its, n, a, c, _⟩
    · exact .base (.lst a)
    · exact .base (.frz a)
    · exact .kList a c
  | tup a b =>
    rcases a with (a | ⟨o, a⟩) | ⟨o, its, n, a, c, _⟩
    · exact .base (.tup a)
    · exact .fTuple a
    · exact .kTuple a c
theorem dp_isi {n : String} {b : Bool} (ha : DP K ta ρ d) (h : kitB (tyD d) n = some b) : DP K (tCB (rIsi K) (tCons ta (tCons (tC (.ty n)) tNil))) ρ (.bool b) := fun σ G H E T k =>
  ha σ G H E _ fun v G1 H1 g dv => ⟨v, .ty n, .type (tyD d), .type n, b, rfl, .ty n, tyx_of (dp_mono g.s dv), kit_ty h, k _ G1 H1 g (.bl b)⟩
end
/-! ### plain comprehensions -/
section
variable {K : Fg} {ρ : List Sl} {tl te : TE}
theorem wipe_idem {σ : L2.St} (vs : List Nat) : wipe (wipe σ vs) vs = wipe σ vs := by
  have aux : ∀ (us ws : List Nat), (∀ x ∈ us, x ∈ ws) → ∀ τ : L2.St, wipe (wipe τ us) ws = wipe τ ws := by
    intro us
    induction us with
    | nil => intro ws _ τ; rfl
    | cons u us ih =>
      intro ws hs τ
      show wipe ((wipe τ us).set u none) ws = _
      rw [wipe_set (hs u List.mem_cons_self)]
      exact ih ws (fun x hx => hs x (List.mem_cons_of_mem _ hx)) τ
  exact aux vs vs (fun _ h => h) σ
/-- [e for x in ..]: the items' values -/
def DIP (K : Fg) (wi : TI) (ρ : List Sl) (ds : List D) : Prop :=
  ∀ (σ : L2.St) (G H : Hp), EnvOk K G H σ ρ → ∀ R : It → Hp → Prop, (∀ J G' H', Grow G H G' H' → ItOk K G' J ds → R J H') → wi σ H R
theorem dp_lc {wi : TI} {ds : List D} {j : Nat} {vs : List Nat} (F : D → D) (hj : j ∈ vs) (h : DIP K wi ρ ds) (hz : ds.length < sizeLine) (he : ∀ d ∈ ds, DP K te ((wipeS ρ vs).set j (.va d)) (F d)) : DP K (tLc wi (gName j) tYes te vs) ρ (.list (ds.map F)) := fun σ G H E T k =>
  h σ G H E _ fun J G1 H1 g1 it => by
    intro L hL
    have E1 := E.grow g1
    have gL : G1 L = none := none_back g1.s hL
    refine ⟨fun i m H2 => m = ds.length - i ∧ i ≤ ds.length ∧ ∃ G2 us, Grow G1 H1 G2 (cut H2 L) ∧ G2 L = none ∧ H2 L = some (.lst us) ∧ DpAll K G2 us ((ds.take i).map F), ⟨ds.length, by simp, Nat.zero_le _, G1, [], ?_, gL, upd_same, .nil⟩, ?_⟩
    · have e : cut (upd H1 L (.lst [])) L = H1 := by
        funext b
        unfold cut
        by_cases z : b = L
        · subst z; rw [if_pos rfl, hL]
        · rw [if_neg z, upd_ne z]
      rw [e]
      exact .refl g1.s
    · rintro i m H2 ⟨rfl, hi, G2, us, gr, l1, l2, du⟩
      have cutSame : Same (cut H2 L) H2 := fun b o hb => by
        unfold cut at hb
        split at hb
        · cases hb
        · exact hb
      by_cases hlt : i < ds.length
      · have sub2 : Same G2 H2 := gr.s.trans cutSame
        obtain ⟨e1, e2⟩ := it.go i ds[i] G2 H2 (List.getElem?_eq_getElem hlt) gr.g sub2
        refine .inr ⟨e1, fun H' => ∃ G' us', Grow G1 H1 G' (cut H' L) ∧ G' L = none ∧ H' L = some (.lst us') ∧ DpAll K G' us' ((ds.take (i + 1)).map F), fun H' x => ⟨ds.length - (i + 1), by omega, rfl, hlt, x⟩, fun x H3 y => ?_⟩
        obtain ⟨G3, g3, dx⟩ := e2 x H3 y
        refine ⟨by rw [wipe_set hj, wipe_idem], ?_⟩
        unfold tYes
        dsimp only
        rw [if_pos rfl]
        have E2 : EnvOk K G2 H2 σ ρ := by
          refine ⟨sub2, fun i d q => ?_, fun i a es q => ?_, E1.dj, E1.len⟩
          · obtain ⟨v, a, b⟩ := E1.va i d q
            exact ⟨v, a, dp_mono gr.g b⟩
          · obtain ⟨a1, a2, ws, a3, a4⟩ := E1.ce i a es q
            refine ⟨a1, ?_, ws, cutSame _ _ (gr.h _ _ a3), dpa_mono gr.g a4⟩
            cases qq : G2 a with
            | none => rfl
            | some o =>
              rcases gr.nw a o qq with z | z
              · rw [a2] at z; cases z
              · rw [a3] at z; cases z
        have E3 := ((E2.grow g3).wiped (σ2 := wipe σ vs) (fun i hi => wipe_out hi) (wipe_length σ vs)).set j dx
        refine he ds[i] (List.getElem_mem hlt) _ G3 H3 E3 _ fun v G4 H4 g4 dv => ?_
        have g34 := g3.trans g4
        have l4 : H4 L = some (.lst us) := g34.h _ _ l2
        have gl4 : G4 L = none := by
          cases qq : G4 L with
          | none => rfl
          | some o =>
            rcases g34.nw L o qq with z | z
            · rw [l1] at z; cases z
            · rw [l2] at z; cases z
        have dl : us.length < sizeLine := by
          rw [dpa_len du, List.length_map, List.length_take]
          omega
        refine ⟨us, l4, dl, G4, us ++ [v], ?_, gl4, upd_same, ?_⟩
        · refine ⟨gr.g.trans g34.g, fun b o hb => ?_, fun b o hb => ?_, fun b o hb => ?_⟩
          · have ne := ne_of_none hb hL
            unfold cut
            rw [if_neg ne, upd_ne ne]
            exact g34.h _ _ (cutSame _ _ (gr.h _ _ hb))
          · have ne := ne_of_none hb gl4
            unfold cut
            rw [if_neg ne, upd_ne ne]
            exact g34.s _ _ hb
          · rcases g34.nw b o hb with z | z
            · exact gr.nw b o z
            · right
              have : (cut H2 L) b = none := by
                unfold cut
                split
                · rfl
                · exact z
              exact none_back gr.h this
        · rw [List.take_add_one, List.getElem?_eq_getElem hlt]
          show DpAll K G4 (us ++ [v]) ((ds.take i ++ [ds[i]]).map F)
          rw [List.map_append]
          exact dpa_app (dpa_mono g34.g du) (.cons dv .nil)
      · have e : i = ds.length := by omega
        subst e
        refine .inl ⟨it.stop G2 H2 gr.g (gr.s.trans cutSame), ?_⟩
        rw [List.take_length] at du
        have sm : Same G2 (upd G2 L (.lst us)) := fun b o hb => by rw [upd_ne (ne_of_none hb l1)]; exact hb
        refine k (.ref L) (upd G2 L (.lst us)) H2 (g1.trans ⟨gr.g.trans sm, fun b o hb => ?_, fun b o hb => ?_, fun b o hb => ?_⟩) (.lst (.of upd_same) (dpa_mono sm du))
        · exact cutSame _ _ (gr.h _ _ hb)
        · by_cases z : b = L
          · subst z; rw [upd_same] at hb; rw [l2]; exact hb
          · rw [upd_ne z] at hb; exact cutSame _ _ (gr.s _ _ hb)
        · by_cases z : b = L
          · subst z; exact .inr hL
          · rw [upd_ne z] at hb; exact gr.nw b o hb
theorem dip_tup {ds : List D} (h : DP K tl ρ (.tuple ds)) : DIP K (iTup K tl) ρ ds := fun σ G H E R k =>
  h σ G H E _ fun v G1 H1 g1 dv => by
    cases dv with
    | @tup a vs _ x y =>
      refine ⟨a, rfl, ⟨vs, sqt_mono g1.s x⟩, k _ G1 H1 g1 ⟨fun i d G' H' e a b => ?_, fun G' H' a b => ⟨vs, sqt_mono b (sqt_mono a x), Nat.le_of_eq (dpa_len y)⟩⟩⟩
      obtain ⟨v, e1, e2⟩ := dpa_get y e
      refine ⟨⟨vs, v, sqt_mono b (sqt_mono a x), e1⟩, fun z H2 w => ?_⟩
      obtain ⟨rfl, w⟩ := w
      cases e1.symm.trans (w vs (sqt_mono b (sqt_mono a x)))
      exact ⟨G', .refl b, dp_mono a e2⟩
theorem dip_list {ds : List D} (h : DP K tl ρ (.list ds)) : DIP K (iList K tl) ρ ds := fun σ G H E R k =>
  h σ G H E _ fun v G1 H1 g1 dv => by
    cases dv with
    | @lst a vs _ x y =>
      refine ⟨a, rfl, ⟨vs, g1.s.seq x⟩, k _ G1 H1 g1 ⟨fun i d G' H' e a b => ?_, fun G' H' a b => ⟨vs, b.seq (a.seq x), Nat.le_of_eq (dpa_len y)⟩⟩⟩
      obtain ⟨v, e1, e2⟩ := dpa_get y e
      refine ⟨⟨vs, v, b.seq (a.seq x), e1⟩, fun z H2 w => ?_⟩
      obtain ⟨rfl, w⟩ := w
      cases e1.symm.trans (w vs (b.seq (a.seq x)))
      exact ⟨G', .refl b, dp_mono a e2⟩
theorem dp_lcT {ds : List D} {j : Nat} {vs : List Nat} (F : D → D) (hj : (j ∈ vs) = True) (h : DP K tl ρ (.tuple ds)) (hz : ds.length < sizeLine) (he : ∀ d ∈ ds, DP K te ((wipeS ρ vs).set j (.va d)) (F d)) : DP K (tLc (iTup K tl) (gName j) tYes te vs) ρ (.list (ds.map F)) :=
  dp_lc F (of_eq_true hj) (dip_tup h) hz he
theorem dp_lcL {ds : List D} {j : Nat} {vs : List Nat} (F : D → D) (hj : (j ∈ vs) = True) (h : DP K tl ρ (.list ds)) (hz : ds.length < sizeLine) (he : ∀ d ∈ ds, DP K te ((wipeS ρ vs).set j (.va d)) (F d)) : DP K (tLc (iList K tl) (gName j) tYes te vs) ρ (.list (ds.map F)) :=
  dp_lc F (of_eq_true hj) (dip_list h) hz he
end
end DL

/-! More: sums, slices, stores into own lists, list(range(..)), least and greatest of two. -/
namespace DL
open PySem PySem.Spec PyProof.Rows L2
section
variable {K : Fg} {ρ : List Sl} {ta tb te tl : TE} {P : Po} {i j : Int} {d : D} {rest : TS}
theorem dp_sum {ns : List Int} (ha : DP K ta ρ (.list (ns.map .int))) : DP K (tCB (rSum K) (tCons ta tNil)) ρ (.int ns.sum) := dp_cb (dap_cons ha dap_nil) fun G H vs s a T k => by
  cases a with
  | cons a b =>
    cases b
    cases a with
    | lst h1 h2 =>
      have e := dpa_ints' h2
      subst e
      exact ⟨_, ns, rfl, s.seq h1, k _ _ G H rfl (.refl s) (.int _)⟩
abbrev rMax2 : List V → Hp → VK → Prop := fun xs H Q => ∃ i j, xs = [.int i, .int j] ∧ Q (.int (if j > i then j else i)) H
abbrev rMin2 : List V → Hp → VK → Prop := fun xs H Q => ∃ i j, xs = [.int i, .int j] ∧ Q (.int (if j < i then j else i)) H
theorem dp_max2 (ha : DP K ta ρ (.int i)) (hb : DP K tb ρ (.int j)) : DP K (tCB rMax2 (tCons ta (tCons tb tNil))) ρ (.int (if j > i then j else i)) := dp_cb (dap_cons ha (dap_cons hb dap_nil)) fun G H vs s a T k => by
  cases a with
  | cons a b =>
    cases a
    cases b with
    | cons b c => cases b; cases c; exact ⟨i, j, rfl, k _ _ G H rfl (.refl s) (.int _)⟩
theorem dp_min2 (ha : DP K ta ρ (.int i)) (hb : DP K tb ρ (.int j)) : DP K (tCB rMin2 (tCons ta (tCons tb tNil))) ρ (.int (if j < i then j else i)) := dp_cb (dap_cons ha (dap_cons hb dap_nil)) fun G H vs s a T k => by
  cases a with
  | cons a b =>
    cases a
    cases b with
    | cons b c => cases b; cases c; exact ⟨i, j, rfl, k _ _ G H rfl (.refl s) (.int _)⟩
/-! ### parts -/
def DO (K : Fg) (to : TO) (ρ : List Sl) (o : Option Int) : Prop := ∀ (σ : L2.St) (G H : Hp), EnvOk K G H σ ρ → ∀ T : Option Int → Hp → Prop, (∀ G' H', Grow G H G' H' → T o H') → to σ H T
theorem do_none : DO K tNoPart ρ none := fun σ G H E T k => k G H (.refl E.sub)
theorem do_some (h : DP K te ρ (.int i)) : DO K (tPart te) ρ (some i) := fun σ G H E T k => h σ G H E _ fun v G1 H1 g dv => by
  cases dv
  exact ⟨i, rfl, k G1 H1 g⟩
def cutD (xs : List D) (lo hi : Option Int) : List D := (xs.drop (HT.sIx xs.length 0 lo)).take (HT.sIx xs.length xs.length hi - HT.sIx xs.length 0 lo)
theorem dpa_cutV {H : Hp} {ds : List D} {vs : List V} {lo hi : Option Int} (h : DpAll K H vs ds) : DpAll K H (cutV vs lo hi) (cutD ds lo hi) := by
  unfold cutV cutD
  rw [dpa_len h]
  exact dpa_take (dpa_drop h)
theorem dn_slice {tlo thi : TO} {ds : List D} {lo hi : Option Int} {Q : List D → List Sl → Prop} (h : DP K tl ρ (.list ds)) (h1 : DO K tlo ρ lo) (h2 : DO K thi ρ hi) (q : Q (cutD ds lo hi) ρ) : DN K (tSl (rSlL K) tl tlo thi) ρ Q := fun σ G H E T k =>
  h σ G H E _ fun v G1 H1 g1 dv => h1 σ G1 H1 (E.grow g1) _ fun G2 H2 g2 => h2 σ G2 H2 ((E.grow g1).grow g2) _ fun G3 H3 g3 => by
    cases dv with
    | @lst a vs _ x y =>
      have g := (g1.trans g2).trans g3
      have E3 := E.grow g
      refine ⟨a, vs, rfl, g3.s.seq (g3.g.seq (g2.g.seq x)), fun p hp => ?_⟩
      have gp : G3 p = none := none_back g3.s hp
      refine k p _ (cutV vs lo hi) ρ G3 (upd H3 p (.lst (cutV vs lo hi))) q ?_ ?_ (none_back g.h hp) gp upd_same ?_ (dpa_cutV (dpa_mono (g2.g.trans g3.g) y))
      · have s := g.step (ρ := ρ)
        exact ⟨s.g, fun b o hb hc => by rw [upd_ne (ne_of_none (s.fr b o hb hc) hp)]; exact s.fr b o hb hc, fun b hb => by
          by_cases z : b = p
          · subst z; exact none_back g.h hp
          · rw [upd_ne z] at hb; exact s.dom b hb, s.nw, s.cl⟩
      · exact ⟨fun b o hb => by rw [upd_ne (ne_of_none hb gp)]; exact E3.sub b o hb, E3.va, fun i a es hi => by
          obtain ⟨a1, a2, us, a3, a4⟩ := E3.ce i a es hi
          exact ⟨a1, a2, us, by rw [upd_ne (ne_of_none a3 hp)]; exact a3, a4⟩, E3.dj, E3.len⟩
      · rintro ⟨i, es, hi⟩
        obtain ⟨_, _, us, a3, _⟩ := E3.ce i p es hi
        rw [hp] at a3; cases a3
theorem dp_sliceL {tlo thi : TO} {ds : List D} {lo hi : Option Int} (h : DP K tl ρ (.list ds)) (h1 : DO K tlo ρ lo) (h2 : DO K thi ρ hi) : DP K (tSl (rSlL K) tl tlo thi) ρ (.list (cutD ds lo hi)) := fun σ G H E T k =>
  h σ G H E _ fun v G1 H1 g1 dv => h1 σ G1 H1 (E.grow g1) _ fun G2 H2 g2 => h2 σ G2 H2 ((E.grow g1).grow g2) _ fun G3 H3 g3 => by
    cases dv with
    | @lst a vs _ x y =>
      have g := (g1.trans g2).trans g3
      refine ⟨a, vs, rfl, g3.s.seq (g3.g.seq (g2.g.seq x)), fun p hp => ?_⟩
      have gn := Grow.new g3.s hp (.lst (cutV vs lo hi))
      exact k (.ref p) _ _ (g.trans gn) (.lst (.of upd_same) (dpa_mono gn.g (dpa_cutV (dpa_mono (g2.g.trans g3.g) y))))
/-- a new list -/
theorem dn_lst {ta : TA} {Q : List D → List Sl → Prop} (ha : DA K ta ρ fun ds ρ1 => ds.length ≤ sizeLine ∧ Q ds ρ1) : DN K (tLst ta) ρ Q := fun σ G H E T k =>
  ha σ G H E _ fun vs ds ρ1 G1 H1 ⟨hl, q⟩ s E1 dv => ⟨by rw [dpa_len dv]; exact hl, fun p hp => by
    have gp : G1 p = none := none_back E1.sub hp
    refine k p ds vs ρ1 G1 (upd H1 p (.lst vs)) q ?_ ?_ (s.dom p hp) gp upd_same ?_ dv
    · exact ⟨s.g, fun b o hb hc => by rw [upd_ne (ne_of_none (s.fr b o hb hc) hp)]; exact s.fr b o hb hc, fun b hb => by
        by_cases z : b = p
        · subst z; exact s.dom b hp
        · rw [upd_ne z] at hb; exact s.dom b hb, s.nw, s.cl⟩
    · exact ⟨fun b o hb => by rw [upd_ne (ne_of_none hb gp)]; exact E1.sub b o hb, E1.va, fun i a es hi => by
        obtain ⟨a1, a2, us, a3, a4⟩ := E1.ce i a es hi
        exact ⟨a1, a2, us, by rw [upd_ne (ne_of_none a3 hp)]; exact a3, a4⟩, E1.dj, E1.len⟩
    · rintro ⟨i, es, hi⟩
      obtain ⟨_, _, us, a3, _⟩ := E1.ce i p es hi
      rw [hp] at a3; cases a3⟩
theorem ds_retL (h : DN K te ρ P.rn) : DS K (tRet te) ρ P := fun σ G H Z E z =>
  h σ G H E _ fun p ds vs ρ1 G1 H1 q s E1 hp gp h1 nc dv => z.rn p ds vs σ ρ1 G1 H1 q s E1 hp gp h1 nc dv
/-- a slot takes a fresh list as its own -/
theorem ds_cell {k : Nat} (hk : k < ρ.length) (h : DN K te ρ fun ds ρ1 => ρ1.length = ρ.length ∧ ∀ p, ¬ Cell ρ1 p → DS K rest (ρ1.set k (.ce p ds)) P) : DS K (tSeq (tAsg te (gName k)) rest) ρ P := fun σ G H Z E z =>
  h σ G H E _ fun p ds vs ρ1 G1 H1 ⟨hl, q⟩ s E1 hp gp h1 nc dv => by
    have hk1 : k < ρ1.length := by omega
    refine q p nc (σ.set k (some (.ref p))) G1 H1 Z ⟨E1.sub, fun i d hi => ?_, fun i a es hi => ?_, fun i j a es fs hi hj => ?_, by rw [List.length_set, List.length_set]; exact E1.len⟩ (z.step ⟨s.g, s.fr, s.dom, s.nw, fun b hb => ?_⟩)
    · by_cases y : k = i
      · subst y; rw [List.getElem?_set_self hk1] at hi; cases hi
      · rw [List.getElem?_set_ne y] at hi ⊢; exact E1.va i d hi
    · by_cases y : k = i
      · subst y
        rw [List.getElem?_set_self hk1] at hi; cases hi
        exact ⟨by rw [List.getElem?_set_self (by rw [E1.len]; exact hk1)], gp, vs, h1, dv⟩
      · rw [List.getElem?_set_ne y] at hi ⊢; exact E1.ce i a es hi
    · by_cases y : k = i
      · by_cases x : k = j
        · omega
        · subst y
          rw [List.getElem?_set_self hk1] at hi; cases hi
          rw [List.getElem?_set_ne x] at hj
          exact absurd ⟨j, fs, hj⟩ nc
      · by_cases x : k = j
        · subst x
          rw [List.getElem?_set_self hk1] at hj; cases hj
          rw [List.getElem?_set_ne y] at hi
          exact absurd ⟨i, es, hi⟩ nc
        · rw [List.getElem?_set_ne y] at hi
          rw [List.getElem?_set_ne x] at hj
          exact E1.dj i j a es fs hi hj
    · obtain ⟨i, es, hi⟩ := hb
      by_cases y : k = i
      · subst y; rw [List.getElem?_set_self hk1] at hi; cases hi; exact .inr hp
      · rw [List.getElem?_set_ne y] at hi; exact s.cl b ⟨i, es, hi⟩
/-- c[i] = e, c an own list -/
theorem EnvOk.setc {G H : Hp} {σ : L2.St} {k : Nat} {p : Addr} {cs es : List D} {ws : List V} (E : EnvOk K G H σ ρ) (hk : ρ[k]? = some (.ce p cs)) (dw : DpAll K G ws es) :
    EnvOk K G (upd H p (.lst ws)) σ (ρ.set k (.ce p es)) ∧ Step ρ G H (ρ.set k (.ce p es)) G (upd H p (.lst ws)) := by
  obtain ⟨a1, a2, us, a3, a4⟩ := E.ce k p cs hk
  refine E.cell hk ⟨.refl G, fun b o hb => ?_, fun b o hb h => ?_, fun b hb => ?_, fun b o hb => .inl hb, a2⟩ upd_same dw
  · rw [upd_ne (ne_of_none hb a2)]; exact E.sub b o hb
  · rw [upd_ne hb]; exact h
  · by_cases z : b = p
    · subst z; rw [upd_same] at hb; cases hb
    · rw [upd_ne z] at hb; exact hb
theorem ds_setC {k : Nat} {p : Addr} {n : Int} {j : Nat} {ti : TE} {cs : List D} (hk : ρ[k]? = some (.ce p cs)) (h : DP K te ρ d) (hi : DP K ti ρ (.int n)) (hj : ixN cs.length n = some j) (q : P.nx (ρ.set k (.ce p (cs.set j d)))) : DS K (tAsg te (gSub (tVar k) ti rSetL)) ρ P := fun σ G H Z E z =>
  h σ G H E _ fun v G1 H1 g1 dv => by
    have E1 := E.grow g1
    obtain ⟨a1, a2, us, a3, a4⟩ := E1.ce k p cs hk
    refine ⟨.ref p, a1, hi σ G1 H1 E1 _ fun x G2 H2 g2 dx => ?_⟩
    cases dx
    have E2 := E1.grow g2
    obtain ⟨b1, b2, ws, b3, b4⟩ := E2.ce k p cs hk
    refine ⟨p, ws, n, j, rfl, rfl, b3, by rw [dpa_len b4]; exact hj, ?_⟩
    obtain ⟨E3, s3⟩ := E2.setc hk (dpa_set (dp_mono g2.g dv) b4 (i := j))
    exact z.nx σ _ G2 _ q ((g1.step.trans g2.step).trans s3) E3
/-- c.append(e) -/
theorem ds_app {k : Nat} {p : Addr} {cs : List D} (hk : ρ[k]? = some (.ce p cs)) (h : DP K te ρ d) (hl : cs.length < sizeLine) (q : P.nx (ρ.set k (.ce p (cs ++ [d])))) : DS K (tDrop (tBM K "list" rAppend (tVar k) (tCons te tNil))) ρ P := fun σ G H Z E z => by
  obtain ⟨a1, a2, us, a3, a4⟩ := E.ce k p cs hk
  refine ⟨.ref p, a1, .inl ⟨rfl, _, .inl (.inl a3)⟩, h σ G H E _ fun v G1 H1 g1 dv => ?_⟩
  have E1 := E.grow g1
  obtain ⟨b1, b2, ws, b3, b4⟩ := E1.ce k p cs hk
  refine ⟨p, ws, v, rfl, rfl, b3, by rw [dpa_len b4]; exact hl, ?_⟩
  obtain ⟨E3, s3⟩ := E1.setc hk (dpa_app b4 (.cons dv .nil))
  exact z.nx σ _ G1 _ q (g1.step.trans s3) E3
/-- c.append(e), e drawing -/
theorem ds_appE {k : Nat} {p : Addr} {cs : List D} (hk : ρ[k]? = some (.ce p cs)) (h : DE K te ρ fun d ρ1 => ∃ es, ρ1[k]? = some (.ce p es) ∧ es.length < sizeLine ∧ P.nx (ρ1.set k (.ce p (es ++ [d])))) : DS K (tDrop (tBM K "list" rAppend (tVar k) (tCons te tNil))) ρ P := fun σ G H Z E z => by
  obtain ⟨a1, a2, us, a3, a4⟩ := E.ce k p cs hk
  refine ⟨.ref p, a1, .inl ⟨rfl, _, .inl (.inl a3)⟩, h σ G H E _ fun v d ρ1 G1 H1 ⟨es, he, hl, q⟩ s1 E1 dv => ?_⟩
  obtain ⟨b1, b2, ws, b3, b4⟩ := E1.ce k p es he
  refine ⟨p, ws, v, rfl, rfl, b3, by rw [dpa_len b4]; exact hl, ?_⟩
  obtain ⟨E3, s3⟩ := E1.setc he (dpa_app b4 (.cons dv .nil))
  exact z.nx σ _ G1 _ q (s1.trans s3) E3
/-- list(range(n)) -/
theorem dpa_range {H : Hp} (a : Int) : ∀ l : List Nat, DpAll K H (l.map fun i => V.int (a + (i : Nat))) (l.map fun i : Nat => PyData.int (a + (i : Int)))
  | [] => .nil
  | i :: l => .cons (.int _) (dpa_range a l)
theorem dp_listRg1 {n : Int} (ha : DP K ta ρ (.int n)) (h : RgOk 0 n) : DP K (tLstRg (tRg1 ta)) ρ (.list ((List.range n.toNat).map fun i : Nat => .int (i : Int))) := fun σ G H E T k =>
  ha σ G H E _ fun v G1 H1 g1 dv => by
    cases dv
    refine ⟨n, rfl, h, fun q hq => ?_⟩
    have gn := Grow.new g1.s hq (.lst (rgV 0 n))
    have key : ∀ H' : Hp, DpAll K H' (rgV 0 n) ((List.range n.toNat).map fun i : Nat => PyData.int (i : Int)) := fun H' => by
      have h0 := dpa_range (K := K) (H := H') 0 (List.range n.toNat)
      unfold rgV
      rw [Int.sub_zero]
      simpa using h0
    exact k (.ref q) _ _ (g1.trans gn) (.lst (.of upd_same) (key _))
theorem dp_listRg2 {m n : Int} (ha : DP K ta ρ (.int m)) (hb : DP K tb ρ (.int n)) (h : RgOk m n) : DP K (tLstRg (tRg2 ta tb)) ρ (.list ((List.range (n - m).toNat).map fun i : Nat => .int (m + (i : Int)))) := fun σ G H E T k =>
  ha σ G H E _ fun v G1 H1 g1 dv => hb σ G1 H1 (E.grow g1) _ fun u G2 H2 g2 du => by
    cases dv; cases du
    refine ⟨m, n, rfl, rfl, h, fun q hq => ?_⟩
    have gn := Grow.new g2.s hq (.lst (rgV m n))
    exact k (.ref q) _ _ ((g1.trans g2).trans gn) (.lst (.of upd_same) (dpa_range m _))
end
end DL

set_option maxHeartbeats 2000000
/-! The head's facts: defs by names, global data. -/
namespace DL
open PySem PySem.Spec PyProof.Rows L2
mutual
def datB (K : Fg) : D → Value → Bool
  | .none, .none => true
  | .bool b, .bool c => b == c
  | .int i, .int j _ => decide (i = j)
  | .str x, .str y _ => decide (x = y)
  | .tuple ds, .ref a => (match K.lookup a with
    | some ⟨.type c, _, .seq its _, _⟩ => decide (c = "tuple") && (decide (its.size ≤ sizeLine) && datA K ds its.toList)
    | _ => false)
  | .list ds, .ref a => (match K.lookup a with
    | some ⟨.type c, none, .seq its _, _⟩ => decide (c = "list") && (decide (its.size ≤ sizeLine) && datA K ds its.toList)
    | _ => false)
  | _, _ => false
def datA (K : Fg) : List D → List Value → Bool
  | [], [] => true
  | d :: ds, u :: us => datB K d u && datA K ds us
  | _, _ => false
end
theorem ba2 {a b : Bool} (h : (a && b) = true) : a = true ∧ b = true := Bool.and_eq_true_iff.mp h
mutual
theorem datB_ok {K : Fg} : ∀ {d : D} {u : Value}, datB K d u = true → ∃ v, RelV v u ∧ ∀ H, Dp K H v d
  | .none, u, h => by
    cases u <;> first | (unfold datB at h; cases h; done) | exact ⟨.non, rfl, fun _ => .non⟩
  | .bool b, u, h => by
    cases u <;> first | (unfold datB at h; cases h; done) | skip
    rename_i c
    have e : b = c := by unfold datB at h; exact eq_of_beq h
    exact ⟨.bl b, by rw [e]; rfl, fun _ => .bl b⟩
  | .int i, u, h => by
    cases u <;> first | (unfold datB at h; cases h; done) | skip
    rename_i j t
    have e : i = j := by unfold datB at h; exact of_decide_eq_true h
    exact ⟨.int i, ⟨t, by rw [e]⟩, fun _ => .int i⟩
  | .str x, u, h => by
    cases u <;> first | (unfold datB at h; cases h; done) | skip
    rename_i y t
    have e : x = y := by unfold datB at h; exact of_decide_eq_true h
    exact ⟨.str x, ⟨t, by rw [e]⟩, fun _ => .str x⟩
  | .tuple ds, u, h => by
    cases u <;> first | (unfold datB at h; cases h; done) | skip
    rename_i a
    unfold datB at h
    cases q : K.lookup a with
    | none => rw [q] at h; cases h
    | some o =>
      obtain ⟨oc, od, dt, sl⟩ := o
      rw [q] at h
      cases oc <;> first | (cases dt <;> cases h; done) | skip
      cases dt <;> first | (cases h; done) | skip
      rename_i c its n
      obtain ⟨h1, h2⟩ := ba2 (show (decide (c = "tuple") && (decide (its.size ≤ sizeLine) && datA K ds its.toList)) = true from h)
      obtain ⟨h3, h4⟩ := ba2 h2
      obtain ⟨vs, r, f⟩ := datA_ok h4
      exact ⟨.ref a, rfl, fun H => .tup (.inr ⟨_, its, n, q, congrArg Value.type (of_decide_eq_true h1), rfl, of_decide_eq_true h3, r⟩) (f H)⟩
  | .list ds, u, h => by
    cases u <;> first | (unfold datB at h; cases h; done) | skip
    rename_i a
    unfold datB at h
    cases q : K.lookup a with
    | none => rw [q] at h; cases h
    | some o =>
      obtain ⟨oc, od, dt, sl⟩ := o
      rw [q] at h
      cases oc <;> first | (cases od <;> cases dt <;> cases h; done) | skip
      cases od <;> first | (cases dt <;> cases h; done) | skip
      cases dt <;> first | (cases h; done) | skip
      rename_i c its n
      obtain ⟨h1, h2⟩ := ba2 (show (decide (c = "list") && (decide (its.size ≤ sizeLine) && datA K ds its.toList)) = true from h)
      obtain ⟨h3, h4⟩ := ba2 h2
      obtain ⟨vs, r, f⟩ := datA_ok h4
      exact ⟨.ref a, rfl, fun H => .lst (.inr ⟨_, its, n, q, congrArg Value.type (of_decide_eq_true h1), rfl, rfl, of_decide_eq_true h3, r⟩) (f H)⟩
  | .dict _, u, h => by
    cases u <;> (unfold datB at h; cases h)
theorem datA_ok {K : Fg} : ∀ {ds : List D} {us : List Value}, datA K ds us = true → ∃ vs, Vals vs us ∧ ∀ H, DpAll K H vs ds
  | [], [], _ => ⟨[], .nil, fun _ => .nil⟩
  | [], _ :: _, h => by unfold datA at h; cases h
  | _ :: _, [], h => by unfold datA at h; cases h
  | d :: ds, u :: us, h => by
    unfold datA at h
    obtain ⟨h1, h2⟩ := ba2 h
    obtain ⟨v, r, f⟩ := datB_ok h1
    obtain ⟨vs, rs, fs⟩ := datA_ok h2
    exact ⟨v :: vs, .cons r rs, fun H => .cons (f H) (fs H)⟩
end
/-- a fact of the module's names -/
inductive Gf where
  | def_ (x : Str)
  | free (x : Str)
  | dat (x : Str) (d : D)
  | blt (x : Str) (id : String)
def Gf.ok (K : Fg) : Gf → Bool
  | .def_ x => (He.Fa.glo x).ok K
  | .free x => (He.Fa.free x).ok K
  | .dat x d => (match PySem.W.nsIn K mainGlobals x with
    | some (some u) => datB K d u
    | _ => false)
  | .blt x id => (match PySem.W.nsIn K mainGlobals x with
    | some (some (.builtin j)) => decide (j = id)
    | _ => false)
section
variable {K : Fg} {h : Heap} {mg : Str → Option Value}
theorem gdat_ok (X : K.In h) (G : h.Ns mainGlobals mg) {x : Str} {d : D} (c : (Gf.dat x d).ok K = true) : ∃ v u, mg x = some u ∧ RelV v u ∧ ∀ H, Dp K H v d := by
  have c2 : (match PySem.W.nsIn K mainGlobals x with
    | some (some u) => datB K d u
    | _ => false) = true := c
  cases e : PySem.W.nsIn K mainGlobals x with
  | none => rw [e] at c2; cases c2
  | some o =>
    rw [e] at c2
    cases o with
    | none => cases c2
    | some u =>
      obtain ⟨v, r, f⟩ := datB_ok (show datB K d u = true from c2)
      exact ⟨v, u, PySem.W.mg_of X G e, r, f⟩
theorem gblt_ok (X : K.In h) (G : h.Ns mainGlobals mg) {x : Str} {id : String} (c : (Gf.blt x id).ok K = true) : mg x = some (.builtin id) := by
  have c2 : (match PySem.W.nsIn K mainGlobals x with
    | some (some (.builtin j)) => decide (j = id)
    | _ => false) = true := c
  cases e : PySem.W.nsIn K mainGlobals x with
  | none => rw [e] at c2; cases c2
  | some o =>
    rw [e] at c2
    cases o with
    | none => cases c2
    | some u =>
      cases u <;> first | (cases c2; done) | skip
      rename_i j
      have ej : j = id := of_decide_eq_true c2
      rw [PySem.W.mg_of X G e, ej]
end
def obsX (fa : List Gf) (fn : List He.DefD) (K : Fg) : He.AlD := ((fa.all fun f => f.ok K) && fn.all fun d => d.ok K, fn.map fun d => He.fnW K d.at_)
def SaysX (fa : List Gf) (fn : List He.DefD) (K : Fg) : Prop := obsX fa fn K = He.valD fn
def obsXG (n : Nat) (fa : List Gf) (fn : List He.DefD) (g : Addr → Option Obj) : He.AlD := obsX fa fn (He.frG g (He.asD g n))
def hookX (n : Nat) (fa : List Gf) (fn : List He.DefD) : PySem.W.Hook where
  α := He.AlD
  obs := fun s => obsXG n fa fn s.heap.get?
  val := fun _ => He.valD fn
  says := fun _ h => ∃ K : Fg, K.In h ∧ SaysX fa fn K
  of := fun _ _ e => ⟨_, He.frG_in, e⟩
  keeps := fun _ _ _ ⟨K, hK, c⟩ k => ⟨K, PySem.W.Frag.In.keeps hK k, c⟩
theorem obsXG_eq {n : Nat} {fa : List Gf} {fn : List He.DefD} {g : Addr → Option Obj} {s : Shared} (h : ∀ a, g a = s.heap.get? a) : obsXG n fa fn g = (hookX n fa fn).obs s := by
  have e : g = s.heap.get? := funext h
  rw [e] <;> rfl
section
variable {fa : List Gf} {fn : List He.DefD} {K : Fg}
theorem SaysX.fact (c : SaysX fa fn K) (i : Nat) {f : Gf} (h : fa[i]? = some f := by rfl) : f.ok K = true := by
  have c1 := (ba2 (show ((fa.all fun f => f.ok K) && fn.all fun d => d.ok K) = true from congrArg (fun z : He.AlD => z.1) c)).1
  exact List.all_eq_true.mp c1 f (List.mem_of_getElem? h)
theorem SaysX.def_ (c : SaysX fa fn K) (i : Nat) {d : He.DefD} (h : fn[i]? = some d := by rfl) : ∃ fd, FunD K d.name d.qual d.params d.body d.scope (d.dvs K) (d.kws K) (He.fAd K d.at_) fd := by
  have c2 := (ba2 (show ((fa.all fun f => f.ok K) && fn.all fun d => d.ok K) = true from congrArg (fun z : He.AlD => z.1) c)).2
  have e : fn.map (fun d => He.fnW K d.at_) = fn.map He.DefD.val := congrArg (fun z : He.AlD => z.2) c
  have e2 : (fn.map fun d => He.fnW K d.at_)[i]? = (fn.map He.DefD.val)[i]? := by rw [e]
  rw [List.getElem?_map, List.getElem?_map, h] at e2
  exact He.DefD.funD (Option.some.inj e2) (List.all_eq_true.mp c2 d (List.mem_of_getElem? h))
end
/-- a plain def of the text as it stands behind the top -/
abbrev FnX (K : Fg) (x : Str) (st : Stmt) (f : Addr) (fd : FuncData) : Prop := FunD K x x (defArgs st) (defBody st) (defScope st) [] [] f fd
def defX (x : Str) (st : Stmt) : He.DefD := ⟨(x, none), x, x, defArgs st, defBody st, defScope st, [], []⟩
end DL

/-! Defs by name, short rules, a tactic for plain expressions. -/
namespace DL
open PySem PySem.Spec PyProof.Rows L2
section
variable {K : Fg} {ρ : List Sl} {Pg : Program} {w : World} {mg : Str → Option Value} {base : Heap}
theorem FnX.ok0 {x qual : Str} {params : Arguments} {body : List Stmt} {scope : Scope} {f : Addr} {fd : FuncData} {N ps : List Str} {k : Nat} {sp : Sp} (F : FunD K x qual params body scope [] [] f fd) (S : FnScope N ps scope) (len : ∀ vs H Q E, sp vs H Q E → vs.length = ps.length)
    (hbody : ∀ (cdv : Value) (A : Around) (outer : List Env) (s : Shared) (H : Hp) (vs : List V) (Q : VK) (E : XK), Room k (A.deeper (envOfC qual scope s.heap.objs.size f cdv)) → sp vs H Q E →
      ∃ t, PSs (cxOf CX0 Pg w K mg base N qual scope f cdv A outer s H E).nox body t ∧ t { nx := fun _ H' => Q .non H', rt := Q } (L2.start N vs) H) : FnOk Pg w K mg base CX0 (k + 1) f fd ps sp :=
  F.ok S len fun cdv A outer s H vs Q E hr h => by
    obtain ⟨t, h1, h2⟩ := hbody cdv A outer s H vs Q E hr h
    exact ⟨t, h1.nox, h2⟩
/-- a def that is known by its name -/
structure OkF (Pg : Program) (w : World) (K : Fg) (mg : Str → Option Value) (base : Heap) (x : Str) (k : Nat) (ps : List Str) (sp : Sp) : Prop where
  ex : ∃ f fd, FnOk Pg w K mg base CX0 k f fd ps sp ∧ mg x = some (.ref f) ∧ PySem.W.keepIn K (.ref f) = true ∧ Binds K fd ps []
theorem pe_cl {X : Cx} {x : Str} {k : Nat} {ps : List Str} {sp : Sp} {e : Expr} {es : List Expr} {t : TA} {p pos : Pos} (F : OkF X.prog X.w X.K X.mg X.base x k ps sp) (hr : Room k X.A) (ha : PA X (e :: es) t) (hg : Gl X x := by rfl)
    (hdb : (x == ("__debug__" : Str)) = false := by decide) (he : starEach (e :: es) X.env = (false, eval e X.env) :: starEach es X.env := by rfl) (hpl : (backTo pos (starEach es X.env)).any (·.1) = false := by rfl) : PE X (.Call (.Name x p) (e :: es) [] pos) (tCall sp [] E0 t) := by
  obtain ⟨f, fd, G, gm, kp, b⟩ := F.ex
  exact pe_call G hr hg gm kp b .nil pass0 ha hdb he hpl
/-- what a def's body is to show -/
def Bod (Pg : Program) (w : World) (K : Fg) (mg : Str → Option Value) (base : Heap) (x : Str) (st : Stmt) (N : List Str) (k : Nat) (R : TS → Prop) : Prop :=
  ∀ (f : Addr) (cdv : Value) (A : Around) (outer : List Env) (s : Shared) (H : Hp) (E : XK), Room k (A.deeper (envOfC x (defScope st) s.heap.objs.size f cdv)) →
    ∃ t, PSs (cxOf CX0 Pg w K mg base N x (defScope st) f cdv A outer s H E).nox (defBody st) t ∧ R t
/-- the head's word on a def -/
structure DfX (K : Fg) (mg : Str → Option Value) (x : Str) (st : Stmt) (ps : List Str) : Prop where
  ex : ∃ f fd, FnX K x st f fd ∧ mg x = some (.ref f) ∧ Binds K fd ps []
theorem dfX {x : Str} {st : Stmt} {ps : List Str} {h : Heap} {fa : List Gf} {fn : List He.DefD} (X : K.In h) (G : h.Ns mainGlobals mg) (c : SaysX fa fn K) (i j : Nat) (hi : fn[i]? = some (defX x st)) (hj : fa[j]? = some (.def_ x))
    (hb : ∀ (kV doc pm : Value) (an : Option Addr) (cdv ct : Value) (us : List Value), us.length = ps.length → bindArgs (PySem.W.fnOf x x (defArgs st) (defBody st) (defScope st) .none kV doc pm an cdv ct) ⟨us, []⟩ = pure (ps.zip us)) : DfX K mg x st ps := by
  obtain ⟨fd, F⟩ := c.def_ i hi
  exact ⟨_, fd, F, He.glo_ok X G (c.fact j hj), FunD.bindsN F hb⟩
theorem okP {x : Str} {st : Stmt} {N ps : List Str} {k : Nat} {c : Call} (D0 : DfX K mg x st ps) (S : FnScope N ps (defScope st)) (len : ∀ ds T, c ds T → ds.length = ps.length)
    (hb : Bod Pg w K mg base x st N k fun t => ∀ ds T, c ds T → DS K t (initS N ds) { nx := fun _ => T .none, rt := fun d _ => T d }) : OkF Pg w K mg base x (k + 1) ps (spP K c) := by
  obtain ⟨f, fd, F, gm, b⟩ := D0.ex
  refine ⟨f, fd, FnX.ok0 F S (fun vs H Q E h => ?_) (fun cdv A outer s H vs Q E hr h => ?_), gm, F.kp, b⟩
  · obtain ⟨G, ds, T, _, dv, hc, _⟩ := h
    rw [dpa_len dv]
    exact len ds T hc
  · obtain ⟨G, ds, T, e, dv, hc, q⟩ := h
    obtain ⟨t, ht, hd⟩ := hb f cdv A outer s H E hr
    refine ⟨t, ht, hd ds T hc _ G H _ (env_start e dv) ⟨?_, ?_, ?_, ?_, ?_⟩⟩
    · intro σ' ρ' G' H' z s' e'
      exact q .non .none G' H' z (s'.grows (fun b => nocell_init) e'.sub) .non
    · intro v d σ' ρ' G' H' z s' e' dd
      exact q v d G' H' z (s'.grows (fun b => nocell_init) e'.sub) dd
    · intro _ _ _ _ z; exact z.elim
    · intro _ _ _ _ z; exact z.elim
    · intro _ _ _ _ _ _ _ z; exact z.elim
theorem okN {x : Str} {st : Stmt} {N ps : List Str} {k : Nat} {c : List D → (List D → Prop) → Prop} (D0 : DfX K mg x st ps) (S : FnScope N ps (defScope st)) (len : ∀ ds T, c ds T → ds.length = ps.length)
    (hb : Bod Pg w K mg base x st N k fun t => ∀ ds T, c ds T → DS K t (initS N ds) { nx := fun _ => False, rt := fun _ _ => False, rn := fun es _ => T es }) : OkF Pg w K mg base x (k + 1) ps (spN K c) := by
  obtain ⟨f, fd, F, gm, b⟩ := D0.ex
  refine ⟨f, fd, FnX.ok0 F S (fun vs H Q E h => ?_) (fun cdv A outer s H vs Q E hr h => ?_), gm, F.kp, b⟩
  · obtain ⟨G, ds, T, _, dv, hc, _⟩ := h
    rw [dpa_len dv]
    exact len ds T hc
  · obtain ⟨G, ds, T, e, dv, hc, q⟩ := h
    obtain ⟨t, ht, hd⟩ := hb f cdv A outer s H E hr
    refine ⟨t, ht, hd ds T hc _ G H _ (env_start e dv) ⟨?_, ?_, ?_, ?_, ?_⟩⟩
    · intro _ _ _ _ z; exact z.elim
    · intro _ _ _ _ _ _ z; exact z.elim
    · intro _ _ _ _ z; exact z.elim
    · intro _ _ _ _ z; exact z.elim
    · intro p es us σ' ρ' G' H' z s' e' hp gp h1 nc dd
      exact q p es us G' H' z (s'.grows (fun b => nocell_init) e'.sub) hp gp h1 dd
theorem okC {x : Str} {st : Stmt} {N ps : List Str} {k : Nat} {c : CallC} (D0 : DfX K mg x st ps) (S : FnScope N ps (defScope st)) (len : ∀ cs ds T, c cs ds T → ds.length + 1 = ps.length)
    (hb : Bod Pg w K mg base x st N k fun t => ∀ p cs ds T, c cs ds T → DS K t (initC N p cs ds) { nx := fun ρ' => ∃ es, ρ'[0]? = some (.ce p es) ∧ T .none es, rt := fun d ρ' => ∃ es, ρ'[0]? = some (.ce p es) ∧ T d es }) : OkF Pg w K mg base x (k + 1) ps (spC K c) := by
  obtain ⟨f, fd, F, gm, b⟩ := D0.ex
  refine ⟨f, fd, FnX.ok0 F S (fun vs H Q E h => ?_) (fun cdv A outer s H vs Q E hr h => ?_), gm, F.kp, b⟩
  · obtain ⟨G, p, us, vs', cs, ds, T, rfl, _, _, _, _, dv, hc, _⟩ := h
    rw [List.length_cons, dpa_len dv]
    exact len cs ds T hc
  · obtain ⟨G, p, us, vs', cs, ds, T, rfl, e, gp, hp, du, dv, hc, q⟩ := h
    obtain ⟨t, ht, hd⟩ := hb f cdv A outer s H E hr
    have hcell : ∀ b, Cell (initC N p cs ds) b → b = p := by
      rintro b ⟨i, fs, hi⟩
      cases i with
      | zero => cases (show some (Sl.ce p cs) = some (Sl.ce b fs) from hi); rfl
      | succ i => rcases initS_va (show (ds.map Sl.va ++ _)[i]? = some _ from hi) with ⟨_, _, z⟩ | z <;> cases z
    have E0 := env_startC (N := N) e gp hp du dv
    have fin : ∀ {σ' ρ' G' H' es}, Step (initC N p cs ds) G H ρ' G' H' → EnvOk K G' H' σ' ρ' → ρ'[0]? = some (.ce p es) → GrowX p G H G' H' ∧ ∃ ws, H' p = some (.lst ws) ∧ DpAll K G' ws es := by
      intro σ' ρ' G' H' es s' e' h0
      obtain ⟨b1, b2, ws, b3, b4⟩ := e'.ce 0 p es h0
      refine ⟨⟨s'.g, e'.sub, fun b o hb h => s'.fr b o h fun z => hb (hcell b z), s'.dom, fun b o hb => ?_, b2⟩, ws, b3, b4⟩
      rcases s'.nw b o hb with z | z | z
      · exact .inl z
      · exact .inr z
      · rw [hcell b z, b2] at hb; cases hb
    refine ⟨t, ht, hd p cs ds T hc _ G H _ E0 ⟨?_, ?_, ?_, ?_, ?_⟩⟩
    · rintro σ' ρ' G' H' ⟨es, h0, z⟩ s' e'
      obtain ⟨g, ws, h1, h2⟩ := fin s' e' h0
      exact q .non .none es ws G' H' z g h1 h2 .non
    · rintro v d σ' ρ' G' H' ⟨es, h0, z⟩ s' e' dd
      obtain ⟨g, ws, h1, h2⟩ := fin s' e' h0
      exact q v d es ws G' H' z g h1 h2 dd
    · intro _ _ _ _ z; exact z.elim
    · intro _ _ _ _ z; exact z.elim
    · intro _ _ _ _ _ _ _ z; exact z.elim
/-! ### built-in names -/
variable {X : Cx} {e : Expr} {es : List Expr} {t : TA} {p pos : Pos}
end
end DL

/-! Fractions as Rat. -/
namespace DL
open PySem PySem.Spec PyProof.Rows L2
abbrev eR (q : Rat) : D := .tuple [.int q.num, .int (q.den : Int)]
abbrev eQ (a b : Rat) : D := .tuple [eR a, eR b]
def SzR (n : Nat) (q : Rat) : Prop := q.num.natAbs < 2 ^ n ∧ q.den < 2 ^ n
theorem den_pos' (q : Rat) : (0 : Int) < (q.den : Int) := Int.natCast_pos.mpr q.den_pos
theorem fdiv_neg_neg {a b : Int} : Int.fdiv (-a) (-b) = Int.fdiv a b := by
  by_cases h : b = 0
  · subst h; simp
  · rw [Int.neg_fdiv_neg]
theorem red_pos {t l : Int} (h : 0 < l) : t.fdiv ((Nat.gcd t.natAbs l.natAbs : Nat) : Int) = (Rat.divInt t l).num ∧ l.fdiv ((Nat.gcd t.natAbs l.natAbs : Nat) : Int) = ((Rat.divInt t l).den : Int) := by
  have hg : (0 : Int) ≤ ((Nat.gcd t.natAbs l.natAbs : Nat) : Int) := Int.natCast_nonneg _
  rw [Int.fdiv_eq_ediv_of_nonneg _ hg, Int.fdiv_eq_ediv_of_nonneg _ hg, Rat.num_divInt, Rat.den_divInt, Int.sign_eq_one_of_pos h, Int.one_mul, if_neg (by omega)]
  have e : l.gcd t = Nat.gcd t.natAbs l.natAbs := by rw [Int.gcd_comm]; rfl
  rw [e]
  refine ⟨rfl, ?_⟩
  rw [Int.natCast_ediv, Int.natAbs_of_nonneg (by omega : 0 ≤ l)]
theorem red_neg {t l : Int} (h : l < 0) : t.fdiv (0 - ((Nat.gcd t.natAbs l.natAbs : Nat) : Int)) = (Rat.divInt t l).num ∧ l.fdiv (0 - ((Nat.gcd t.natAbs l.natAbs : Nat) : Int)) = ((Rat.divInt t l).den : Int) := by
  have := red_pos (t := -t) (l := -l) (by omega)
  rw [Int.natAbs_neg, Int.natAbs_neg, Rat.neg_divInt_neg] at this
  rw [Int.zero_sub]
  have a : ∀ x y : Int, (-x).fdiv y = x.fdiv (-y) := fun x y => by
    have := fdiv_neg_neg (a := x) (b := -y)
    rw [Int.neg_neg] at this
    exact this
  rw [a, a] at this
  exact this
theorem szR_num {n : Nat} {q : Rat} (h : SzR n q) : q.num.natAbs < 2 ^ n := h.1
theorem szR_den {n : Nat} {q : Rat} (h : SzR n q) : ((q.den : Int)).natAbs < 2 ^ n := by
  rw [Int.natAbs_natCast]; exact h.2
theorem szR_mono {m n : Nat} {q : Rat} (h : SzR m q) (l : m ≤ n) : SzR n q := ⟨Nat.lt_of_lt_of_le h.1 (Nat.pow_le_pow_right (by decide) l), Nat.lt_of_lt_of_le h.2 (Nat.pow_le_pow_right (by decide) l)⟩
theorem szR_divInt {t l : Int} {m : Nat} (hl : l ≠ 0) (a : t.natAbs < 2 ^ m) (b : l.natAbs < 2 ^ m) : SzR m (Rat.divInt t l) := by
  constructor
  · rw [Rat.num_divInt]
    have h1 : (l.sign * t / (l.gcd t : Int)).natAbs ≤ (l.sign * t).natAbs := Int.natAbs_ediv_le_natAbs _ _
    have h2 : (l.sign * t).natAbs ≤ t.natAbs := by
      rw [Int.natAbs_mul, Int.natAbs_sign_of_ne_zero hl, Nat.one_mul]
      exact Nat.le_refl _
    omega
  · rw [Rat.den_divInt, if_neg hl]
    exact Nat.lt_of_le_of_lt (Nat.div_le_self _ _) b
theorem nat_two_mul {a b m n : Nat} (h : a < 2 ^ m) (k : b < 2 ^ n) : a * b < 2 ^ (m + n) := by
  rw [Nat.pow_add]
  exact Nat.mul_lt_mul'' h k
theorem mul_lt2 {a b : Int} {m n : Nat} (h : a.natAbs < 2 ^ m) (k : b.natAbs < 2 ^ n) : (a * b).natAbs < 2 ^ (m + n) := by
  rw [Int.natAbs_mul]
  exact nat_two_mul h k
theorem add_lt2 {a b : Int} {m : Nat} (h : a.natAbs < 2 ^ m) (k : b.natAbs < 2 ^ m) : (a + b).natAbs < 2 ^ (m + 1) := by
  have := Int.natAbs_add_le a b
  rw [Nat.pow_succ]
  omega
theorem sub_lt2 {a b : Int} {m : Nat} (h : a.natAbs < 2 ^ m) (k : b.natAbs < 2 ^ m) : (a - b).natAbs < 2 ^ (m + 1) := by
  have := Int.natAbs_sub_le a b
  rw [Nat.pow_succ]
  omega
theorem lt2_mono {a : Int} {m n : Nat} (h : a.natAbs < 2 ^ m) (l : m ≤ n) : a.natAbs < 2 ^ n := Nat.lt_of_lt_of_le h (Nat.pow_le_pow_right (by decide) l)
theorem addE (a b : Rat) : Rat.divInt (a.num * (b.den : Int) + b.num * (a.den : Int)) ((a.den : Int) * (b.den : Int)) = a + b := by
  rw [Rat.add_def', ← Rat.divInt_ofNat, Int.natCast_mul]
theorem subE (a b : Rat) : Rat.divInt (a.num * (b.den : Int) - b.num * (a.den : Int)) ((a.den : Int) * (b.den : Int)) = a - b := by
  rw [Rat.sub_def', ← Rat.divInt_ofNat, Int.natCast_mul]
theorem mulE (a b : Rat) : Rat.divInt (a.num * b.num) ((a.den : Int) * (b.den : Int)) = a * b := by
  rw [Rat.mul_def', ← Rat.divInt_ofNat, Int.natCast_mul]
theorem divE (a b : Rat) : Rat.divInt (a.num * (b.den : Int)) ((a.den : Int) * b.num) = a / b := by
  rw [Rat.div_def, Rat.inv_def, ← Rat.divInt_mul_divInt, Rat.num_divInt_den]
theorem szR_add {a b : Rat} {m n : Nat} (h : SzR m a) (k : SzR n b) : SzR (m + n + 1) (a + b) := by
  rw [← addE]
  have z : (a.den : Int) * (b.den : Int) ≠ 0 := by
    have := Int.mul_pos (den_pos' a) (den_pos' b); omega
  refine szR_divInt z (add_lt2 (mul_lt2 h.1 (szR_den k)) ?_) (lt2_mono (mul_lt2 (szR_den h) (szR_den k)) (by omega))
  rw [Nat.add_comm]; exact mul_lt2 k.1 (szR_den h)
theorem szR_sub {a b : Rat} {m n : Nat} (h : SzR m a) (k : SzR n b) : SzR (m + n + 1) (a - b) := by
  rw [← subE]
  have z : (a.den : Int) * (b.den : Int) ≠ 0 := by
    have := Int.mul_pos (den_pos' a) (den_pos' b); omega
  refine szR_divInt z (sub_lt2 (mul_lt2 h.1 (szR_den k)) ?_) (lt2_mono (mul_lt2 (szR_den h) (szR_den k)) (by omega))
  rw [Nat.add_comm]; exact mul_lt2 k.1 (szR_den h)
theorem szR_mul {a b : Rat} {m n : Nat} (h : SzR m a) (k : SzR n b) : SzR (m + n) (a * b) := by
  rw [← mulE]
  have z : (a.den : Int) * (b.den : Int) ≠ 0 := by
    have := Int.mul_pos (den_pos' a) (den_pos' b); omega
  exact szR_divInt z (mul_lt2 h.1 k.1) (mul_lt2 (szR_den h) (szR_den k))
theorem szR_div {a b : Rat} {m n : Nat} (h : SzR m a) (k : SzR n b) (hb : b ≠ 0) : SzR (m + n) (a / b) := by
  rw [← divE]
  have z : (a.den : Int) * b.num ≠ 0 := Int.mul_ne_zero (by have := den_pos' a; omega) fun z => hb (Rat.num_eq_zero.mp z)
  exact szR_divInt z (mul_lt2 h.1 (szR_den k)) (mul_lt2 (szR_den h) k.1)
/-- what * and // ask -/
theorem cmul {i j : Int} {a b : Nat} (ha : i.natAbs < 2 ^ a) (hb : j.natAbs < 2 ^ b) (h : a + b ≤ 900000) : CMulW i j := by
  refine wide_mul (a := a + 1) (b := b + 1) (lt2_mono ha (by omega)) (lt2_mono hb (by omega)) (by omega) (by omega) (by omega)
theorem cdiv {i j : Int} {b : Nat} (h : j ≠ 0) (hb : j.natAbs < 2 ^ b) (h9 : b ≤ 8999) : CDivX i j := ⟨h, Nat.lt_of_lt_of_le (PySem.Flt.log2_lt_of (by omega) (lt2_mono hb (Nat.le_succ b))) (by omega)⟩
/-! ### equality -/
theorem eqv_int {i j : Int} : PyData.eqv (.int i) (.int j) = (i == j) := rfl
theorem eqv_eR {a b : Rat} : PyData.eqv (eR a) (eR b) = decide (a = b) := by
  show ((a.num == b.num) && (((a.den : Int) == (b.den : Int)) && true)) = decide (a = b)
  by_cases h : a = b
  · subst h; simp
  · rw [decide_eq_false h, Bool.and_true]
    by_cases h1 : a.num = b.num
    · have h2 : a.den ≠ b.den := fun h2 => h (Rat.ext h1 h2)
      have h3 : ((a.den : Int) == (b.den : Int)) = false := by
        rw [beq_eq_false_iff_ne]; omega
      rw [h3, Bool.and_false]
    · have : (a.num == b.num) = false := beq_eq_false_iff_ne.mpr h1
      rw [this, Bool.false_and]
theorem eqv_eQ {a b c d : Rat} : PyData.eqv (eQ a b) (eQ c d) = (decide (a = c) && decide (b = d)) := by
  show (PyData.eqv (eR a) (eR c) && (PyData.eqv (eR b) (eR d) && true)) = _
  rw [eqv_eR, eqv_eR, Bool.and_true]
theorem sh_eR {a : Rat} : SeqAt.shaped (eR a) = true := rfl
theorem sh_eQ {a b : Rat} : SeqAt.shaped (eQ a b) = true := rfl
end DL

/-! Numbers a + b s, s the root of f: an ordered ring. -/
namespace DL
class NSq (f : Rat) : Prop where
  pos : 0 < f
  ns : ∀ r : Rat, r * r ≠ f
structure QS (f : Rat) where
  a : Rat
  b : Rat
namespace QS
variable {f : Rat}
theorem ext {x y : QS f} (h : x.a = y.a) (k : x.b = y.b) : x = y := by
  obtain ⟨a, b⟩ := x
  obtain ⟨c, d⟩ := y
  cases h; cases k; rfl
instance : Add (QS f) := ⟨fun x y => ⟨x.a + y.a, x.b + y.b⟩⟩
instance : Mul (QS f) := ⟨fun x y => ⟨x.a * y.a + f * x.b * y.b, x.a * y.b + x.b * y.a⟩⟩
instance : Neg (QS f) := ⟨fun x => ⟨-x.a, -x.b⟩⟩
instance : Sub (QS f) := ⟨fun x y => ⟨x.a - y.a, x.b - y.b⟩⟩
instance instNat : NatCast (QS f) := ⟨fun n => ⟨(n : Rat), 0⟩⟩
instance instInt : IntCast (QS f) := ⟨fun n => ⟨(n : Rat), 0⟩⟩
instance instOf (n : Nat) : OfNat (QS f) n := ⟨⟨(n : Rat), 0⟩⟩
def npow (x : QS f) : Nat → QS f
  | 0 => 1
  | n + 1 => npow x n * x
instance instPow : HPow (QS f) Nat (QS f) := ⟨npow⟩
instance instNs : SMul Nat (QS f) := ⟨fun n x => ((n : Nat) : QS f) * x⟩
instance instZs : SMul Int (QS f) := ⟨fun n x => ((n : Int) : QS f) * x⟩
theorem add_a (x y : QS f) : (x + y).a = x.a + y.a := rfl
theorem add_b (x y : QS f) : (x + y).b = x.b + y.b := rfl
theorem mul_a (x y : QS f) : (x * y).a = x.a * y.a + f * x.b * y.b := rfl
theorem mul_b (x y : QS f) : (x * y).b = x.a * y.b + x.b * y.a := rfl
theorem sub_a (x y : QS f) : (x - y).a = x.a - y.a := rfl
theorem sub_b (x y : QS f) : (x - y).b = x.b - y.b := rfl
theorem neg_a (x : QS f) : (-x).a = -x.a := rfl
theorem neg_b (x : QS f) : (-x).b = -x.b := rfl
theorem nat_a (n : Nat) : ((n : Nat) : QS f).a = n := rfl
theorem nat_b (n : Nat) : ((n : Nat) : QS f).b = 0 := rfl
theorem int_a (n : Int) : ((n : Int) : QS f).a = n := rfl
theorem int_b (n : Int) : ((n : Int) : QS f).b = 0 := rfl
theorem of_a (n : Nat) : (OfNat.ofNat n : QS f).a = (n : Rat) := rfl
theorem of_b (n : Nat) : (OfNat.ofNat n : QS f).b = 0 := rfl
theorem zero_a : (0 : QS f).a = 0 := rfl
theorem zero_b : (0 : QS f).b = 0 := rfl
theorem one_a : (1 : QS f).a = 1 := rfl
theorem one_b : (1 : QS f).b = 0 := rfl
instance : Lean.Grind.CommRing (QS f) where
  natCast := instNat
  ofNat := instOf
  nsmul := instNs
  npow := instPow
  intCast := instInt
  zsmul := instZs
  add_zero x := by apply ext <;> simp only [add_a, add_b, zero_a, zero_b] <;> grind
  add_comm x y := by apply ext <;> simp only [add_a, add_b] <;> grind
  add_assoc x y z := by apply ext <;> simp only [add_a, add_b] <;> grind
  mul_assoc x y z := by apply ext <;> simp only [mul_a, mul_b] <;> grind
  mul_one x := by apply ext <;> simp only [mul_a, mul_b, one_a, one_b] <;> grind
  one_mul x := by apply ext <;> simp only [mul_a, mul_b, one_a, one_b] <;> grind
  left_distrib x y z := by apply ext <;> simp only [mul_a, mul_b, add_a, add_b] <;> grind
  right_distrib x y z := by apply ext <;> simp only [mul_a, mul_b, add_a, add_b] <;> grind
  zero_mul x := by apply ext <;> simp only [mul_a, mul_b, zero_a, zero_b] <;> grind
  mul_zero x := by apply ext <;> simp only [mul_a, mul_b, zero_a, zero_b] <;> grind
  pow_zero x := rfl
  pow_succ x n := rfl
  ofNat_succ n := by apply ext <;> simp only [of_a, of_b, add_a, add_b, one_a, one_b] <;> grind
  neg_add_cancel x := by apply ext <;> simp only [neg_a, neg_b, add_a, add_b, zero_a, zero_b] <;> grind
  sub_eq_add_neg x y := by apply ext <;> simp only [neg_a, neg_b, add_a, add_b, sub_a, sub_b] <;> grind
  neg_zsmul n x := by
    show ((-n : Int) : QS f) * x = -(((n : Int) : QS f) * x)
    apply ext <;> simp only [neg_a, neg_b, mul_a, mul_b, int_a, int_b, Rat.intCast_neg] <;> grind
  intCast_neg n := by apply ext <;> simp only [neg_a, neg_b, int_a, int_b, Rat.intCast_neg] <;> grind
  mul_comm x y := by apply ext <;> simp only [mul_a, mul_b] <;> grind
/-! ### the order -/
def Pos (x : QS f) : Prop := (0 < x.a ∧ f * x.b * x.b < x.a * x.a) ∨ (0 < x.b ∧ x.a * x.a < f * x.b * x.b)
instance : LT (QS f) := ⟨fun x y => Pos (y - x)⟩
instance : LE (QS f) := ⟨fun x y => x = y ∨ Pos (y - x)⟩
theorem lemA {X Y : Rat} (h : Y * Y < X * X) (p : 0 < X) : 0 < X + Y := by
  apply Classical.byContradiction
  intro n
  have h1 : X + Y ≤ 0 := by grind
  have h2 : 0 ≤ X - Y := by grind
  have h3 : 0 ≤ (-(X + Y)) * (X - Y) := Rat.mul_nonneg (by grind) h2
  grind
theorem lemB {X Y : Rat} (h : Y * Y < X * X) (p : X < 0) : X + Y < 0 := by
  have := lemA (X := -X) (Y := -Y) (by grind) (by grind)
  grind
variable [NSq f]
theorem norm_ne {a b : Rat} (h : a ≠ 0 ∨ b ≠ 0) : a * a ≠ f * b * b := by
  intro e
  by_cases hb : b = 0
  · subst hb
    have : a * a = 0 := by grind
    rcases Rat.mul_eq_zero.mp this with z | z <;> grind
  · refine NSq.ns (f := f) (a / b) ?_
    rw [Rat.div_def]
    have e2 : b * b⁻¹ = 1 := Rat.mul_inv_cancel b hb
    grind
theorem tri (x : QS f) : x = 0 ∨ Pos x ∨ Pos (-x) := by
  by_cases h : x.a = 0 ∧ x.b = 0
  · exact .inl (ext h.1 h.2)
  · have n := norm_ne (f := f) (a := x.a) (b := x.b) (by grind)
    right
    simp only [Pos, neg_a, neg_b]
    have hf := NSq.pos (f := f)
    by_cases hN : x.a * x.a < f * x.b * x.b
    · have hb : x.b ≠ 0 := by
        intro z
        rw [z] at hN
        have := Rat.mul_nonneg (a := x.a) (b := x.a)
        by_cases q : 0 ≤ x.a
        · have := Rat.mul_nonneg q q; grind
        · have := Rat.mul_nonneg (a := -x.a) (b := -x.a) (by grind) (by grind); grind
      grind
    · have ha : x.a ≠ 0 := by
        intro z
        rw [z] at hN n
        have : 0 ≤ f * (x.b * x.b) := Rat.mul_nonneg (by grind) (by
          by_cases q : 0 ≤ x.b
          · exact Rat.mul_nonneg q q
          · have := Rat.mul_nonneg (a := -x.b) (b := -x.b) (by grind) (by grind); grind)
        grind
      grind
theorem not_both (x : QS f) (h : Pos x) (k : Pos (-x)) : False := by
  simp only [Pos, neg_a, neg_b] at h k
  grind
theorem pos_mul {x y : QS f} (h : Pos x) (k : Pos y) : Pos (x * y) := by
  have hf := NSq.pos (f := f)
  obtain ⟨a, b⟩ := x
  obtain ⟨c, d⟩ := y
  simp only [Pos, mul_a, mul_b] at h k ⊢
  have sq : ∀ z : Rat, 0 ≤ z * z := fun z => by
    by_cases q : 0 ≤ z
    · exact Rat.mul_nonneg q q
    · have := Rat.mul_nonneg (a := -z) (b := -z) (by grind) (by grind); grind
  have sb := Rat.mul_nonneg (Rat.le_of_lt hf) (sq b)
  have sd := Rat.mul_nonneg (Rat.le_of_lt hf) (sq d)
  have sa := sq a
  have sc := sq c
  rcases h with ⟨h1, h2⟩ | ⟨h1, h2⟩ <;> rcases k with ⟨k1, k2⟩ | ⟨k1, k2⟩
  · left
    -- a a > f b b, c c > f d d
    have p1 : 0 < (a * a - f * b * b) * (c * c - f * d * d) := Rat.mul_pos (by grind) (by grind)
    refine ⟨lemA ?_ (Rat.mul_pos h1 k1), by grind⟩
    have p2 : 0 < (a * a - f * b * b) * (c * c) := Rat.mul_pos (by grind) (by grind)
    have p3 : 0 ≤ (f * b * b) * (c * c - f * d * d) := Rat.mul_nonneg (by grind) (by grind)
    grind
  · right
    have p1 : 0 < (a * a - f * b * b) * (f * d * d - c * c) := Rat.mul_pos (by grind) (by grind)
    refine ⟨lemA ?_ (Rat.mul_pos h1 k1), by grind⟩
    have p2 : 0 < (a * a - f * b * b) * (f * d * d) := Rat.mul_pos (by grind) (by grind)
    have p3 : 0 ≤ (f * b * b) * (f * d * d - c * c) := Rat.mul_nonneg (by grind) (by grind)
    have p4 : 0 < f * ((a * d) * (a * d) - (b * c) * (b * c)) := by grind
    have p5 := (Rat.mul_pos_iff_of_pos_left hf).mp p4
    grind
  · right
    have p1 : 0 < (f * b * b - a * a) * (c * c - f * d * d) := Rat.mul_pos (by grind) (by grind)
    have p2 : 0 < (f * b * b) * (c * c - f * d * d) := Rat.mul_pos (by grind) (by grind)
    have p3 : 0 ≤ (f * b * b - a * a) * (f * d * d) := Rat.mul_nonneg (by grind) (by grind)
    have p4 : 0 < f * ((b * c) * (b * c) - (a * d) * (a * d)) := by grind
    have p5 := (Rat.mul_pos_iff_of_pos_left hf).mp p4
    have := lemA (X := b * c) (Y := a * d) (by grind) (Rat.mul_pos h1 k1)
    grind
  · left
    have p1 : 0 < (f * b * b - a * a) * (f * d * d - c * c) := Rat.mul_pos (by grind) (by grind)
    have p2 : 0 < (f * b * b - a * a) * (f * d * d) := Rat.mul_pos (by grind) (by grind)
    have p3 : 0 ≤ (a * a) * (f * d * d - c * c) := Rat.mul_nonneg (by grind) (by grind)
    have p4 := Rat.mul_pos hf (Rat.mul_pos h1 k1)
    have := lemA (X := f * (b * d)) (Y := a * c) (by grind) p4
    grind
theorem pos_one : Pos (1 : QS f) := by
  left
  simp only [one_a, one_b]
  grind
theorem pos_add1 {x : QS f} (h : Pos x) : Pos (x + 1) := by
  have hf := NSq.pos (f := f)
  obtain ⟨a, b⟩ := x
  have n := norm_ne (f := f) (a := a + 1) (b := b)
  simp only [Pos, add_a, add_b, one_a, one_b] at h ⊢
  rcases h with ⟨h1, h2⟩ | ⟨h1, h2⟩
  · left; grind
  · have n2 := n (by grind)
    by_cases q : (a + 1) * (a + 1) < f * b * b
    · right; grind
    · left; grind
def inv (x : QS f) : QS f := ⟨x.a / (x.a * x.a - f * x.b * x.b), -x.b / (x.a * x.a - f * x.b * x.b)⟩
theorem mul_inv {x : QS f} (h : x ≠ 0) : x * inv x = 1 := by
  have n := norm_ne (f := f) (a := x.a) (b := x.b) (by
    by_cases z : x.a = 0
    · right; intro w; exact h (ext z w)
    · exact .inl z)
  have e := Rat.mul_inv_cancel (x.a * x.a - f * x.b * x.b) (by grind)
  apply ext <;> simp only [mul_a, mul_b, inv, one_a, one_b, Rat.div_def] <;> grind
theorem pos_inv {x : QS f} (h : Pos x) : Pos (inv x) := by
  have hx : x ≠ 0 := by
    intro z; subst z
    simp only [Pos, zero_a, zero_b] at h; grind
  have e := mul_inv hx
  rcases tri (inv x) with z | z | z
  · rw [z] at e
    have : (1 : QS f).a = 0 := by rw [← e]; simp only [mul_a, zero_a, zero_b]; grind
    simp only [one_a] at this; grind
  · exact z
  · have w := pos_mul h z
    have e2 : x * -inv x = -1 := by grind
    rw [e2] at w
    exact (not_both 1 pos_one w).elim
theorem pos_add {x y : QS f} (h : Pos x) (k : Pos y) : Pos (x + y) := by
  have hx : x ≠ 0 := by
    intro z; subst z
    simp only [Pos, zero_a, zero_b] at h; grind
  have e := mul_inv hx
  have p := pos_mul h (pos_add1 (pos_mul k (pos_inv h)))
  have e2 : x * (y * inv x + 1) = x + y := by grind
  rw [e2] at p
  exact p
instance : Std.IsLinearOrder (QS f) where
  le_refl x := .inl rfl
  le_trans x y z h k := by
    rcases h with h | h
    · subst h; exact k
    · rcases k with k | k
      · subst k; exact .inr h
      · right
        have := pos_add h k
        have e : (y - x) + (z - y) = z - x := by grind
        rw [e] at this; exact this
  le_antisymm x y h k := by
    rcases h with h | h
    · exact h
    · rcases k with k | k
      · exact k.symm
      · have e : x - y = -(y - x) := by grind
        rw [e] at k
        exact (not_both _ h k).elim
  le_total x y := by
    rcases tri (y - x) with z | z | z
    · left; left; grind
    · exact .inl (.inr z)
    · right; right
      have e : -(y - x) = x - y := by grind
      rw [e] at z; exact z
instance : Std.LawfulOrderLT (QS f) where
  lt_iff x y := by
    constructor
    · intro h
      refine ⟨.inr h, fun k => ?_⟩
      rcases k with k | k
      · subst k
        have h : Pos (y - y) := h
        have e : y - y = (0 : QS f) := by grind
        rw [e] at h
        simp only [Pos, zero_a, zero_b] at h; grind
      · have e : x - y = -(y - x) := by grind
        rw [e] at k
        exact not_both _ h k
    · intro ⟨h, k⟩
      rcases h with h | h
      · exact (k (.inl h.symm)).elim
      · exact h
instance : Lean.Grind.OrderedRing (QS f) where
  add_le_left_iff {x y} z := by
    have e : (y + z) - (x + z) = y - x := by grind
    constructor
    · intro h
      rcases h with h | h
      · subst h; exact .inl rfl
      · right; rw [e]; exact h
    · intro h
      rcases h with h | h
      · left; grind
      · right; rw [e] at h; exact h
  zero_lt_one := by
    show Pos ((1 : QS f) - 0)
    have e : (1 : QS f) - 0 = 1 := by grind
    rw [e]; exact pos_one
  mul_lt_mul_of_pos_left {x y z} h k := by
    have k : Pos (z - 0) := k
    have e : z - 0 = z := by grind
    rw [e] at k
    have p := pos_mul k h
    show Pos (z * y - z * x)
    have e2 : z * (y - x) = z * y - z * x := by grind
    rw [e2] at p; exact p
  mul_lt_mul_of_pos_right {x y z} h k := by
    have k : Pos (z - 0) := k
    have e : z - 0 = z := by grind
    rw [e] at k
    have p := pos_mul k h
    show Pos (y * z - x * z)
    have e2 : z * (y - x) = y * z - x * z := by grind
    rw [e2] at p; exact p
theorem mul_pos' {x y : QS f} (h : 0 < x) (k : 0 < y) : 0 < x * y := by
  have := Lean.Grind.OrderedRing.mul_lt_mul_of_pos_left k h
  grind
theorem pos_iff {x : QS f} : 0 < x ↔ Pos x := by
  show Pos (x - 0) ↔ Pos x
  have e : x - 0 = x := by grind
  rw [e]
example (x y z : QS f) (h : x < y) (k : y ≤ z) : x + 1 < z + 1 := by grind
end QS
end DL

/-! More: three at once, picks out of a list, powers, bodies of loops. -/
namespace DL
open PySem PySem.Spec PyProof.Rows L2
section
variable {K : Fg} {ρ : List Sl} {ta tb te tl : TE} {P : Po} {i j k : Int} {d : D} {rest : TS}
theorem ds_par3 {i j l : Nat} {ta : TA} (h : DA K ta ρ fun ds ρ1 => ∃ d e f, ds = [d, e, f] ∧ P.nx (((ρ1.set i (.va d)).set j (.va e)).set l (.va f))) : DS K (tPar3 i j l ta) ρ P := fun σ G H Z E z =>
  h σ G H E _ fun vs ds ρ1 G1 H1 ⟨d, e, f, q, p⟩ s E1 dv => by
    subst q
    cases dv with
    | cons a b => cases b with
      | cons b c => cases c with
        | cons c w => cases w; exact ⟨_, _, _, rfl, z.nx _ _ G1 H1 p (((s.set i d).set j e).set l f) (((E1.set i a).set j b).set l c)⟩
theorem atI_pos {α : Type} {xs : List α} {k : Int} {n : Nat} (h : k = (n : Int)) (hn : n < xs.length) : atI xs k = some xs[n] := by
  subst h
  unfold atI
  have e : ixN xs.length (n : Int) = some n := by
    unfold ixN
    rw [if_pos (Int.natCast_nonneg _), if_pos (by exact_mod_cast hn), Int.toNat_natCast]
  rw [e]
  exact List.getElem?_eq_getElem hn
theorem dp_pick {ns : List Int} {lo hi : Int} (hb : ∀ n ∈ ns, lo < n ∧ n < hi) (ha : DP K ta ρ (.list (ns.map .int))) (hi' : DP K tb ρ (.int k)) (h0 : 0 ≤ k) (hk : k < (ns.length : Int)) : ∃ n : Int, lo < n ∧ n < hi ∧ DP K (tOp (rIxL K) ta tb) ρ (.int n) := by
  have hn : k.toNat < ns.length := by omega
  refine ⟨ns[k.toNat], (hb _ (List.getElem_mem hn)).1, (hb _ (List.getElem_mem hn)).2, dp_ixL ha hi' ?_⟩
  have := atI_pos (xs := ns.map PyData.int) (k := k) (n := k.toNat) (by omega) (by rw [List.length_map]; exact hn)
  rw [this, List.getElem_map]
theorem cpow {i j : Int} {b : Nat} (h0 : 0 ≤ j) (hb : i.natAbs < 2 ^ b) (h : (b : Int) * j ≤ 2 ^ 27) : CPowX i j := ⟨h0, by
  have h1 : (Builtin.Int.intBits i : Int) ≤ (b : Int) := by exact_mod_cast intBits_le_iff.mpr hb
  exact Int.le_trans (Int.mul_le_mul_of_nonneg_right h1 h0) h⟩
theorem cutD_map (ns : List Int) (lo hi : Option Int) : cutD (ns.map PyData.int) lo hi = ((ns.drop (HT.sIx ns.length 0 lo)).take (HT.sIx ns.length ns.length hi - HT.sIx ns.length 0 lo)).map .int := by
  unfold cutD
  rw [List.length_map, List.map_take, List.map_drop]
/-- a loop whose rest is shown once -/
theorem ds_forq {wi : TI} {g : TG} {tb u : TS} (N : List Sl → Prop) (h : DS K (tFor wi g tb) ρ ⟨N, P.rt, P.bk, P.ct, P.rn⟩) (k : ∀ ρ', N ρ' → DS K u ρ' P) : DS K (tSeq (tFor wi g tb) u) ρ P :=
  ds_seq (ds_weak h k (fun _ _ z => z) (fun _ z => z) (fun _ z => z) (fun _ _ z => z))
theorem lt2_of {i : Int} {m : Nat} (h0 : 0 ≤ i) (h : i < 2 ^ m) : i.natAbs < 2 ^ m := by
  have : (i.natAbs : Int) < ((2 ^ m : Nat) : Int) := by rw [Int.natAbs_of_nonneg h0]; exact_mod_cast h
  exact_mod_cast this
theorem fmod_lt {i j : Int} (h : 0 < j) : 0 ≤ i.fmod j ∧ i.fmod j < j := ⟨Int.fmod_nonneg_of_pos _ h, Int.fmod_lt_of_pos _ h⟩
end
end DL
namespace DL
open PySem PySem.Spec PyProof.Rows L2
theorem dp_cix {K : Fg} {ρ : List Sl} {i : Nat} {p : Addr} {cs : List D} {k : Int} {d : D} (hi : ρ[i]? = some (.ce p cs)) (h : atI cs k = some d := by rfl) (hd : lf d = true := by rfl) : DP K (tOp (rIxL K) (tVar i) (tC (.int k))) ρ d :=
  dp_peek hi (dp_ixL (dp_var (by rw [List.getElem?_set_self (List.getElem?_eq_some_iff.mp hi).1])) dp_int h) hd
end DL

/-! Tuples of data and new lists, put into names at once; x in l. -/
namespace DL
open PySem PySem.Spec PyProof.Rows L2
section
variable {K : Fg} {ρ ρ' : List Sl} {σ σ' : L2.St} {G H : Hp} {ta tb te tl : TE} {P : Po} {d e : D} {rest : TS}
theorem EnvOk.ren (φ : Nat → Nat) (inj : ∀ i j, i < ρ'.length → j < ρ'.length → φ i = φ j → i = j) (h1 : ∀ j, j < ρ'.length → σ'[j]? = σ[φ j]?) (h2 : ∀ j, j < ρ'.length → ρ'[j]? = ρ[φ j]?) (hl : σ'.length = ρ'.length) (E : EnvOk K G H σ ρ) : EnvOk K G H σ' ρ' where
  sub := E.sub
  va := fun i d h => by
    have hi := (List.getElem?_eq_some_iff.mp h).1
    rw [h1 i hi]; rw [h2 i hi] at h; exact E.va _ d h
  ce := fun i a ds h => by
    have hi := (List.getElem?_eq_some_iff.mp h).1
    rw [h1 i hi]; rw [h2 i hi] at h; exact E.ce _ a ds h
  dj := fun i j a ds es h k => by
    have hi := (List.getElem?_eq_some_iff.mp h).1
    have hj := (List.getElem?_eq_some_iff.mp k).1
    rw [h2 i hi] at h; rw [h2 j hj] at k
    exact inj i j hi hj (E.dj _ _ a ds es h k)
  len := hl
theorem EnvOk.prefix {τ : L2.St} {κ : List Sl} (hl : σ.length = ρ.length) (E : EnvOk K G H (σ ++ τ) (ρ ++ κ)) : EnvOk K G H σ ρ :=
  E.ren id (fun i j _ _ h => h) (fun j hj => (List.getElem?_append_left (by omega)).symm) (fun j hj => (List.getElem?_append_left hj).symm) hl
theorem get_app {α : Type} {l k : List α} {x z : α} {j : Nat} (h : (l ++ [x])[j]? = some z) : (l[j]? = some z) ∨ (j = l.length ∧ x = z) := by
  by_cases q : j < l.length
  · rw [List.getElem?_append_left q] at h; exact .inl h
  · rw [List.getElem?_append_right (by omega)] at h
    by_cases e : j = l.length
    · subst e; rw [Nat.sub_self] at h; cases h; exact .inr ⟨rfl, rfl⟩
    · have : j - l.length = (j - l.length - 1) + 1 := by omega
      rw [this] at h; cases h
theorem EnvOk.pushV {v : V} (E : EnvOk K G H σ ρ) (dv : Dp K G v d) : EnvOk K G H (σ ++ [some v]) (ρ ++ [.va d]) where
  sub := E.sub
  va := fun i d' h => by
    rcases get_app (k := ρ) h with h | ⟨h', e⟩
    · obtain ⟨w, a, b⟩ := E.va i d' h
      exact ⟨w, by rw [List.getElem?_append_left (List.getElem?_eq_some_iff.mp a).1]; exact a, b⟩
    · cases e; subst h'
      refine ⟨v, ?_, dv⟩
      rw [← E.len, List.getElem?_append_right (Nat.le_refl _), Nat.sub_self]; rfl
  ce := fun i a ds h => by
    rcases get_app (k := ρ) h with h | ⟨h', e⟩
    · obtain ⟨w, b⟩ := E.ce i a ds h
      exact ⟨by rw [List.getElem?_append_left (List.getElem?_eq_some_iff.mp w).1]; exact w, b⟩
    · cases e
  dj := fun i j a ds es h k => by
    rcases get_app (k := ρ) h with h | ⟨h, e⟩
    · rcases get_app (k := ρ) k with k | ⟨k, e⟩
      · exact E.dj i j a ds es h k
      · cases e
    · cases e
  len := by rw [List.length_append, List.length_append, E.len]; rfl
theorem EnvOk.pushC {p : Addr} {ds : List D} {vs : List V} (E : EnvOk K G H σ ρ) (nc : ¬ Cell ρ p) (gp : G p = none) (hp : H p = some (.lst vs)) (dv : DpAll K G vs ds) : EnvOk K G H (σ ++ [some (.ref p)]) (ρ ++ [.ce p ds]) where
  sub := E.sub
  va := fun i d' h => by
    rcases get_app (k := ρ) h with h | ⟨h', e⟩
    · obtain ⟨w, a, b⟩ := E.va i d' h
      exact ⟨w, by rw [List.getElem?_append_left (List.getElem?_eq_some_iff.mp a).1]; exact a, b⟩
    · cases e
  ce := fun i a ds h => by
    rcases get_app (k := ρ) h with h | ⟨h', e⟩
    · obtain ⟨w, b⟩ := E.ce i a ds h
      exact ⟨by rw [List.getElem?_append_left (List.getElem?_eq_some_iff.mp w).1]; exact w, b⟩
    · cases e; subst h'
      refine ⟨?_, gp, vs, hp, dv⟩
      rw [← E.len, List.getElem?_append_right (Nat.le_refl _), Nat.sub_self]; rfl
  dj := fun i j a ds es h k => by
    rcases get_app (k := ρ) h with h | ⟨h, e⟩
    · rcases get_app (k := ρ) k with k | ⟨k, e⟩
      · exact E.dj i j a ds es h k
      · cases e; exact (nc ⟨i, ds, h⟩).elim
    · cases e
      rcases get_app (k := ρ) k with k | ⟨k, e⟩
      · exact (nc ⟨j, es, k⟩).elim
      · omega
  len := by rw [List.length_append, List.length_append, E.len]; rfl
/-- items: data, or lists that are new -/
inductive It2 where
  | va (d : D)
  | ne (ds : List D)
def ItSl : It2 → Sl → Prop
  | .va d, s => s = .va d
  | .ne ds, s => ∃ p, s = .ce p ds
inductive Its : List It2 → List Sl → Prop where
  | nil : Its [] []
  | cons {i s is ss} (h : ItSl i s) (t : Its is ss) : Its (i :: is) (s :: ss)
def DX (K : Fg) (te : TE) (ρ : List Sl) : It2 → Prop
  | .va d => DP K te ρ d
  | .ne ds => ∀ (σ : L2.St) (G H : Hp), EnvOk K G H σ ρ → ∀ T : VK, (∀ p vs G' H', Grow G H G' H' → H p = none → G' p = none → H' p = some (.lst vs) → DpAll K G' vs ds → T (.ref p) H') → te σ H T
theorem dx_lst {ta : TA} {ds : List D} (h : DAP K ta ρ ds) (hl : ds.length ≤ sizeLine := by first | decide | (simp; decide)) : DX K (tLst ta) ρ (.ne ds) := fun σ G H E T k =>
  h σ G H E _ fun vs G1 H1 g1 dv => ⟨by rw [dpa_len dv]; exact hl, fun p hp => by
    have gp : G1 p = none := none_back g1.s hp
    refine k p vs G1 (upd H1 p (.lst vs)) ⟨g1.g, fun b o hb => ?_, fun b o hb => ?_, g1.nw⟩ (none_back g1.h hp) gp upd_same dv
    · have := g1.h b o hb
      rw [upd_ne (ne_of_none this hp)]; exact this
    · have := g1.s b o hb
      rw [upd_ne (ne_of_none this hp)]; exact this⟩
def DAX (K : Fg) (ta : TA) (ρ : List Sl) (its : List It2) : Prop := ∀ (σ : L2.St) (G H : Hp) (us : List V) (su : List Sl), EnvOk K G H (σ ++ us.map some) (ρ ++ su) → σ.length = ρ.length → ∀ T : List V → Hp → Prop,
  (∀ vs sx G' H', Its its sx → Grow G H G' H' → EnvOk K G' H' (σ ++ (us ++ vs).map some) (ρ ++ (su ++ sx)) → vs.length = its.length → (∀ p ds, .ce p ds ∈ sx → H p = none) → T vs H') → ta σ H T
theorem dax_nil : DAX K tNil ρ [] := fun σ G H us su E hl T k => k [] [] G H .nil (.refl E.sub) (by rw [List.append_nil, List.append_nil]; exact E) rfl (fun _ _ h => nomatch h)
theorem dax_cons {it : It2} {its : List It2} {tr : TA} (h : DX K te ρ it) (hr : DAX K tr ρ its) : DAX K (tCons te tr) ρ (it :: its) := fun σ G H us su E hl T k => by
  have E0 := E.prefix hl
  cases it with
  | va d =>
    refine h σ G H E0 _ fun v G1 H1 g1 dv => ?_
    have E1 := (E.grow g1).pushV dv
    have a1 : σ ++ us.map some ++ [some v] = σ ++ (us ++ [v]).map some := by rw [List.map_append, List.append_assoc]; rfl
    rw [a1, List.append_assoc] at E1
    refine hr σ G1 H1 _ _ E1 hl _ fun vs sx G2 H2 hi g2 E2 hn fr => ?_
    rw [List.append_assoc, List.append_assoc] at E2
    refine k (v :: vs) (.va d :: sx) G2 H2 (.cons rfl hi) (g1.trans g2) E2 (by rw [List.length_cons, List.length_cons, hn]) fun p ds hm => ?_
    rcases List.mem_cons.mp hm with z | z
    · cases z
    · exact none_back g1.h (fr p ds z)
  | ne ds =>
    refine h σ G H E0 _ fun p vs G1 H1 g1 hp gp h1 dv => ?_
    have E1 := (E.grow g1).pushC (p := p) (ds := ds) (vs := vs) (by
      rintro ⟨i, es, hi⟩
      obtain ⟨_, _, ws, a3, _⟩ := E.ce i p es hi
      rw [hp] at a3; cases a3) gp h1 dv
    have a1 : σ ++ us.map some ++ [some (V.ref p)] = σ ++ (us ++ [V.ref p]).map some := by rw [List.map_append, List.append_assoc]; rfl
    rw [a1, List.append_assoc] at E1
    refine hr σ G1 H1 _ _ E1 hl _ fun vs sx G2 H2 hi g2 E2 hn fr => ?_
    rw [List.append_assoc, List.append_assoc] at E2
    refine k (.ref p :: vs) (.ce p ds :: sx) G2 H2 (.cons ⟨p, rfl⟩ hi) (g1.trans g2) E2 (by rw [List.length_cons, List.length_cons, hn]) fun q es hm => ?_
    rcases List.mem_cons.mp hm with z | z
    · cases z; exact hp
    · exact none_back g1.h (fr q es z)
def gsN : List Nat → TGs
  | [] => gNil
  | i :: is => gCons (gName i) (gsN is)
def setV (σ : L2.St) : List Nat → List V → L2.St
  | i :: is, v :: vs => setV (σ.set i (some v)) is vs
  | _, _ => σ
def setS (ρ : List Sl) : List Nat → List Sl → List Sl
  | i :: is, s :: ss => setS (ρ.set i s) is ss
  | _, _ => ρ
theorem gsN_ok {H : Hp} {Q : L2.St → Hp → Prop} : ∀ {is : List Nat} {vs : List V} {σ : L2.St}, vs.length = is.length → Q (setV σ is vs) H → gsN is vs σ H Q
  | [], [], _, _, q => ⟨rfl, q⟩
  | i :: is, v :: vs, σ, h, q => ⟨v, vs, rfl, gsN_ok (σ := σ.set i (some v)) (Nat.succ.inj h) q⟩
  | [], _ :: _, _, h, _ => nomatch h
  | _ :: _, [], _, h, _ => nomatch h
theorem move {τ : L2.St} {κ : List Sl} {v : Option V} {s : Sl} {i : Nat} (hi : i < ρ.length) (hl : σ.length = ρ.length) (E : EnvOk K G H (σ ++ v :: τ) (ρ ++ s :: κ)) : EnvOk K G H (σ.set i v ++ τ) (ρ.set i s ++ κ) := by
  have hE := E.len
  rw [List.length_append, List.length_append, List.length_cons, List.length_cons] at hE
  refine E.ren (fun j => if j = i then ρ.length else if j < ρ.length then j else j + 1) (fun a b _ _ h => ?_) (fun j hj => ?_) (fun j hj => ?_) ?_
  · split at h <;> split at h <;> (try split at h) <;> (try split at h) <;> omega
  · show _ = _[if j = i then ρ.length else if j < ρ.length then j else j + 1]?
    by_cases q : j = i
    · subst q
      rw [if_pos rfl, List.getElem?_append_left (by rw [List.length_set]; omega), List.getElem?_set_self (by omega), List.getElem?_append_right (by omega), hl, Nat.sub_self]; rfl
    · rw [if_neg q]
      by_cases q2 : j < ρ.length
      · rw [if_pos q2, List.getElem?_append_left (by rw [List.length_set]; omega), List.getElem?_append_left (by omega), List.getElem?_set_ne (fun z => q z.symm)]
      · rw [if_neg q2, List.getElem?_append_right (by rw [List.length_set]; omega), List.getElem?_append_right (by omega), List.length_set]
        have : j + 1 - σ.length = (j - σ.length) + 1 := by omega
        rw [this]; rfl
  · show _ = _[if j = i then ρ.length else if j < ρ.length then j else j + 1]?
    by_cases q : j = i
    · subst q
      rw [if_pos rfl, List.getElem?_append_left (by rw [List.length_set]; omega), List.getElem?_set_self (by omega), List.getElem?_append_right (by omega), Nat.sub_self]; rfl
    · rw [if_neg q]
      by_cases q2 : j < ρ.length
      · rw [if_pos q2, List.getElem?_append_left (by rw [List.length_set]; omega), List.getElem?_append_left (by omega), List.getElem?_set_ne (fun z => q z.symm)]
      · rw [if_neg q2, List.getElem?_append_right (by rw [List.length_set]; omega), List.getElem?_append_right (by omega), List.length_set]
        have : j + 1 - ρ.length = (j - ρ.length) + 1 := by omega
        rw [this]; rfl
  · rw [List.length_append, List.length_append, List.length_set, List.length_set]; omega
theorem setS_ok : ∀ {is : List Nat} {vs : List V} {sx : List Sl} {σ : L2.St} {ρ : List Sl}, vs.length = is.length → sx.length = is.length → (∀ i ∈ is, i < ρ.length) → σ.length = ρ.length → EnvOk K G H (σ ++ vs.map some) (ρ ++ sx) → EnvOk K G H (setV σ is vs) (setS ρ is sx)
  | [], [], [], σ, ρ, _, _, _, hl, E => E.prefix hl
  | i :: is, v :: vs, s :: sx, σ, ρ, h1, h2, h3, hl, E => by
    show EnvOk K G H (setV (σ.set i (some v)) is vs) (setS (ρ.set i s) is sx)
    exact setS_ok (Nat.succ.inj h1) (Nat.succ.inj h2) (fun j hj => by rw [List.length_set]; exact h3 j (List.mem_cons_of_mem _ hj)) (by rw [List.length_set, List.length_set]; exact hl) (move (h3 i List.mem_cons_self) hl E)
  | [], _ :: _, _, _, _, h, _, _, _, _ => nomatch h
  | [], [], _ :: _, _, _, _, h, _, _, _ => nomatch h
  | _ :: _, [], _, _, _, h, _, _, _, _ => nomatch h
  | _ :: _, _ :: _, [], _, _, _, h, _, _, _ => nomatch h
theorem setS_mem {x : Sl} : ∀ {is : List Nat} {sx : List Sl} {ρ : List Sl}, x ∈ setS ρ is sx → x ∈ ρ ∨ x ∈ sx
  | [], [], _, h => .inl h
  | [], _ :: _, _, h => .inl h
  | _ :: _, [], _, h => .inl h
  | i :: is, s :: sx, ρ, h => by
    rcases setS_mem (is := is) (sx := sx) (ρ := ρ.set i s) h with z | z
    · rcases List.mem_or_eq_of_mem_set z with y | y
      · exact .inl y
      · exact .inr (by rw [y]; exact List.mem_cons_self)
    · exact .inr (List.mem_cons_of_mem _ z)
theorem its_len {its : List It2} {sx : List Sl} (h : Its its sx) : sx.length = its.length := by
  induction h with
  | nil => rfl
  | cons h t ih => rw [List.length_cons, List.length_cons, ih]
theorem setS_step {is : List Nat} {sx : List Sl} {G' H' : Hp} (g : Grow G H G' H') (fr : ∀ p ds, .ce p ds ∈ sx → H p = none) : Step ρ G H (setS ρ is sx) G' H' :=
  ⟨g.g, fun b o h _ => g.h b o h, fun b h => none_back g.h h, fun b o h => (g.nw b o h).elim .inl (.inr ∘ .inl), fun b ⟨i, ds, h⟩ => by
    rcases setS_mem (List.mem_of_getElem? h) with z | z
    · obtain ⟨j, hj⟩ := List.mem_iff_getElem?.mp z
      exact .inl ⟨j, ds, hj⟩
    · exact .inr (fr b ds z)⟩
/-- names take a tuple's parts at once -/
theorem ds_tupX {ta : TA} (is : List Nat) {its : List It2} (ha : DAX K ta ρ its) (hn : its.length = is.length := by rfl) (hi : ∀ i ∈ is, i < ρ.length := by decide) (hz : its.length ≤ sizeLine := by decide) (q : ∀ sx, Its its sx → DS K rest (setS ρ is sx) P) :
    DS K (tSeq (tAsg (tTup ta) (gTup K is.length (gsN is))) rest) ρ P := ds_seq fun σ G H Z E z =>
  ha σ G H [] [] (by rw [List.map_nil, List.append_nil, List.append_nil]; exact E) E.len _ fun vs sx G1 H1 h1 g1 E1 hv fr => ⟨by rw [hv]; exact hz, fun p hp => by
    have g2 := Grow.new g1.s hp (.tup vs)
    refine ⟨p, vs, rfl, .of upd_same, by rw [hv]; exact hn, gsN_ok (by rw [hv]; exact hn) ?_⟩
    have E2 := E1.grow g2
    rw [List.nil_append, List.nil_append] at E2
    exact z.nx _ _ _ _ (q sx h1) (setS_step (g1.trans g2) fr) (setS_ok (by rw [hv]; exact hn) (by rw [its_len h1]; exact hn) hi E.len E2)⟩
theorem ds_par3X {i j l : Nat} {ta : TA} {its : List It2} (ha : DAX K ta ρ its) (hn : its.length = 3 := by rfl) (hi : ∀ k ∈ [i, j, l], k < ρ.length := by decide) (q : ∀ sx, Its its sx → DS K rest (setS ρ [i, j, l] sx) P) :
    DS K (tSeq (tPar3 i j l ta) rest) ρ P := ds_seq fun σ G H Z E z =>
  ha σ G H [] [] (by rw [List.map_nil, List.append_nil, List.append_nil]; exact E) E.len _ fun vs sx G1 H1 h1 g1 E1 hv fr => by
    rw [List.nil_append, List.nil_append] at E1
    rw [hn] at hv
    have E3 := setS_ok (is := [i, j, l]) hv (by rw [its_len h1]; exact hn) hi E.len E1
    obtain ⟨u, v, w, rfl⟩ : ∃ u v w, vs = [u, v, w] := by
      match vs, hv with
      | [u, v, w], _ => exact ⟨u, v, w, rfl⟩
    exact ⟨u, v, w, rfl, z.nx _ _ _ _ (q sx h1) (setS_step g1 fr) E3⟩
theorem dp_inD {ds : List D} (ha : DP K ta ρ d) (hb : DP K tb ρ (.list ds)) (h1 : SeqAt.shaped d = true) (h2 : SeqAt.shaped (.list ds) = true) : DP K (tOp (rInD K) ta tb) ρ (.bool (ds.any fun z => PyData.eqv z d)) := dp_op ha hb fun G H x y s a b T k =>
  ⟨d, ds, dp_mono s a, dp_mono s b, h1, h2, k _ _ G H rfl (.refl s) (.bl _)⟩
theorem atI_last {α : Type} {xs : List α} {x : α} : atI (xs ++ [x]) (-1) = some x := by
  unfold atI ixN
  rw [List.length_append]
  rw [if_neg (by decide), if_pos (by simp; omega)]
  have : ((-1 : Int) + ((xs.length + [x].length : Nat) : Int)).toNat = xs.length := by simp; omega
  rw [this]
  simp
theorem atI_last2 {α : Type} {xs : List α} {x y : α} : atI (xs ++ [x] ++ [y]) (-2) = some x := by
  unfold atI ixN
  rw [List.length_append, List.length_append]
  rw [if_neg (by decide), if_pos (by simp; omega)]
  have : ((-2 : Int) + ((xs.length + [x].length + [y].length : Nat) : Int)).toNat = xs.length := by simp; omega
  rw [this]
  simp
theorem dp_cixN {i : Nat} {p : Addr} {cs : List D} {k : Int} (hi : ρ[i]? = some (.ce p cs)) (h : atI cs (-k) = some d) (hd : lf d = true := by rfl) : DP K (tOp (rIxL K) (tVar i) (tUn (rU fun i => .int (-i)) (tC (.int k)))) ρ d :=
  dp_peek hi (dp_ixL (dp_var (by rw [List.getElem?_set_self (List.getElem?_eq_some_iff.mp hi).1])) (dp_neg dp_int) h) hd
theorem runits {k : Nat} {A : Around} (r : Room k A) : A.units + 65 < cLine := by have := r.un; omega
theorem de_opL {r : R2} {Q : D → List Sl → Prop} (ha : DE K ta ρ fun d ρ1 => ∃ e f, DP K tb ρ1 e ∧ R2D K r d e (fun x => x = f) ∧ Q f ρ1) : DE K (tOp r ta tb) ρ Q :=
  de_op (ha.mono fun d ρ1 ⟨e, f, h1, h2, q⟩ => DE.of h1 fun G H x y s a b T k => h2 G H x y s a b T fun v f' G' H' z g dv => k v f' G' H' (by subst z; exact q) g dv)
theorem de_opR {r : R2} {Q : D → List Sl → Prop} (ha : DP K ta ρ d) (hb : DE K tb ρ fun e ρ1 => ∃ f, R2D K r d e (fun x => x = f) ∧ Q f ρ1) : DE K (tOp r ta tb) ρ Q :=
  de_op (DE.of ha (hb.mono fun e ρ1 ⟨f, h2, q⟩ => fun G H x y s a b T k => h2 G H x y s a b T fun v f' G' H' z g dv => k v f' G' H' (by subst z; exact q) g dv))
theorem eP_cop {t l : Int} (hl : 0 < l) (h : Nat.gcd t.natAbs l.natAbs = 1) : (.tuple [.int t, .int l] : D) = eR (Rat.divInt t l) := by
  obtain ⟨a, b⟩ := red_pos (t := t) hl
  rw [h] at a b
  have e1 : t.fdiv ((1 : Nat) : Int) = t := Int.fdiv_one t
  have e2 : l.fdiv ((1 : Nat) : Int) = l := Int.fdiv_one l
  rw [e1] at a; rw [e2] at b
  show (PyData.tuple [.int t, .int l] : D) = .tuple [.int (Rat.divInt t l).num, .int ((Rat.divInt t l).den : Int)]
  rw [← a, ← b]
theorem r2_subE {i j : Int} : R2D K rSubI (.int i) (.int j) (fun x => x = .int (i - j)) := r2_I0 (fun _ => .int _) rfl
theorem r2_addE {i j : Int} : R2D K rAddI (.int i) (.int j) (fun x => x = .int (i + j)) := r2_I0 (fun _ => .int _) rfl
end
end DL
namespace DL
open PySem PySem.Spec PyProof.Rows L2
/-- the law itself: the function's place is given -/
theorem okL {Pg : Program} {w : World} {K : Fg} {mg : Str → Option Value} {base : Heap} {x : Str} {st : Stmt} {N ps : List Str} {k : Nat} {c : Call} {f : Addr} {fd : FuncData} (F : FnX K x st f fd) (S : FnScope N ps (defScope st)) (len : ∀ ds T, c ds T → ds.length = ps.length)
    (hb : Bod Pg w K mg base x st N k fun t => ∀ ds T, c ds T → DS K t (initS N ds) { nx := fun _ => T .none, rt := fun d _ => T d }) : FnOk Pg w K mg base CX0 (k + 1) f fd ps (spP K c) := by
  refine FnX.ok0 F S (fun vs H Q E h => ?_) (fun cdv A outer s H vs Q E hr h => ?_)
  · obtain ⟨G, ds, T, _, dv, hc, _⟩ := h
    rw [dpa_len dv]
    exact len ds T hc
  · obtain ⟨G, ds, T, e, dv, hc, q⟩ := h
    obtain ⟨t, ht, hd⟩ := hb f cdv A outer s H E hr
    refine ⟨t, ht, hd ds T hc _ G H _ (env_start e dv) ⟨?_, ?_, ?_, ?_, ?_⟩⟩
    · intro σ' ρ' G' H' z s' e'
      exact q .non .none G' H' z (s'.grows (fun b => nocell_init) e'.sub) .non
    · intro v d σ' ρ' G' H' z s' e' dd
      exact q v d G' H' z (s'.grows (fun b => nocell_init) e'.sub) dd
    · intro _ _ _ _ z; exact z.elim
    · intro _ _ _ _ z; exact z.elim
    · intro _ _ _ _ _ _ _ z; exact z.elim
theorem dt_yes {K : Fg} {ρ : List Sl} {Q : Bool → List Sl → Prop} (q : Q true ρ) : DT K tYes ρ Q := fun σ G H E T k => k true ρ G H q (.refl _ _ _) E
/-- the law's list, as it comes -/
theorem law_in {K : Fg} {c : Call} {H : Hp} {a : Addr} {ns : List Int} {Q : VK} {E : XK} (hS : SqL K H a (ns.map V.int)) (hc : c [.list (ns.map .int)] fun d => d = .bool true) (q : ∀ H', Q (.bl true) H') : spP K c [.ref a] H Q E :=
  ⟨H, [.list (ns.map .int)], _, .refl H, .cons (.lst hS (dpa_ints ns)) .nil, hc, fun v d G' H' t g dd => by subst t; cases dd; exact q H'⟩
end DL

namespace H50
open PySem PySem.Spec PyProof.Rows L2 DL
def topS (i : Nat) : Stmt := PySem.Challenge.pw_whennumbersstop_k50_whole_surds_as_fract.main.body.getD i (.Pass ⟨0, 0, 0, 0⟩)
abbrev s_is_integer : Stmt := topS 7
abbrev s_is_between : Stmt := topS 8
abbrev s_common : Stmt := topS 9
abbrev s_reduced : Stmt := topS 10
abbrev s_is_fraction : Stmt := topS 11
abbrev s_is_told_fraction : Stmt := topS 12
abbrev s_added : Stmt := topS 13
abbrev s_difference : Stmt := topS 14
abbrev s_product_of : Stmt := topS 15
abbrev s_quotient : Stmt := topS 16
abbrev s_floor_root : Stmt := topS 19
abbrev s_is_square : Stmt := topS 20
abbrev s_core_told : Stmt := topS 21
abbrev s_is_field : Stmt := topS 22
abbrev s_check_field : Stmt := topS 23
abbrev s_is_surd : Stmt := topS 25
abbrev s_check_surd : Stmt := topS 26
abbrev s_surd_of : Stmt := topS 27
abbrev s_is_nothing : Stmt := topS 28
abbrev s_surd_plus : Stmt := topS 29
abbrev s_surd_less : Stmt := topS 30
abbrev s_surd_times : Stmt := topS 31
abbrev s_norm_of : Stmt := topS 32
abbrev s_surd_inverse : Stmt := topS 33
abbrev s_surd_by : Stmt := topS 34
abbrev s_sign_of : Stmt := topS 35
abbrev s_surd_sign : Stmt := topS 36
abbrev s_surd_is_less : Stmt := topS 37
abbrev s_surd_floor : Stmt := topS 38
abbrev s_fraction_between : Stmt := topS 39
abbrev s_check_two_surds : Stmt := topS 40
abbrev s_surd_sum : Stmt := topS 41
abbrev s_surd_parted : Stmt := topS 42
abbrev s_surd_compared : Stmt := topS 43
abbrev s_surd_rounded : Stmt := topS 44
abbrev s_surd_between : Stmt := topS 45
abbrev s_law_pot : Stmt := topS 47
abbrev s_law_take : Stmt := topS 48
abbrev s_law_of : Stmt := topS 49
abbrev s_law_cells : Stmt := topS 50
abbrev s_law_reduced : Stmt := topS 51
abbrev s_law_sum : Stmt := topS 52
abbrev s_law_times : Stmt := topS 53
abbrev s_law_minus : Stmt := topS 54
abbrev s_law_parted : Stmt := topS 55
abbrev s_law_floor_root : Stmt := topS 56
abbrev s_law_floor : Stmt := topS 57
abbrev s_law_start : Stmt := topS 58
abbrev s_law_is_near : Stmt := topS 59
abbrev s_law_goes_on : Stmt := topS 60
abbrev s_law_ends : Stmt := topS 61
abbrev s_law_right : Stmt := topS 62
abbrev s_law : Stmt := topS 63
def fn0 : List He.DefD := [defX "is_integer" s_is_integer, defX "is_between" s_is_between, defX "common" s_common, defX "reduced" s_reduced, defX "is_fraction" s_is_fraction, defX "is_told_fraction" s_is_told_fraction, defX "added" s_added, defX "difference" s_difference, defX "product_of" s_product_of, defX "quotient" s_quotient, defX "floor_root" s_floor_root, defX "is_square" s_is_square, defX "core_told" s_core_told, defX "is_field" s_is_field, defX "check_field" s_check_field, defX "is_surd" s_is_surd, defX "check_surd" s_check_surd, defX "surd_of" s_surd_of, defX "is_nothing" s_is_nothing, defX "surd_plus" s_surd_plus, defX "surd_less" s_surd_less, defX "surd_times" s_surd_times, defX "norm_of" s_norm_of, defX "surd_inverse" s_surd_inverse, defX "surd_by" s_surd_by, defX "sign_of" s_sign_of, defX "surd_sign" s_surd_sign, defX "surd_is_less" s_surd_is_less, defX "surd_floor" s_surd_floor, defX "fraction_between" s_fraction_between]
def fn1 : List He.DefD := [defX "check_two_surds" s_check_two_surds, defX "surd_sum" s_surd_sum, defX "surd_parted" s_surd_parted, defX "surd_compared" s_surd_compared, defX "surd_rounded" s_surd_rounded, defX "surd_between" s_surd_between, defX "_law_pot" s_law_pot, defX "_law_take" s_law_take, defX "_law_of" s_law_of, defX "_law_cells" s_law_cells, defX "_law_reduced" s_law_reduced, defX "_law_sum" s_law_sum, defX "_law_times" s_law_times, defX "_law_minus" s_law_minus, defX "_law_parted" s_law_parted, defX "_law_floor_root" s_law_floor_root, defX "_law_floor" s_law_floor, defX "_law_start" s_law_start, defX "_law_is_near" s_law_is_near, defX "_law_goes_on" s_law_goes_on, defX "_law_ends" s_law_ends, defX "_law_right" s_law_right, defX "law" s_law]
def fn : List He.DefD := fn0 ++ fn1
def fa0 : List Gf := [.def_ "is_integer", .def_ "is_between", .def_ "common", .def_ "reduced", .def_ "is_fraction", .def_ "is_told_fraction", .def_ "added", .def_ "difference", .def_ "product_of", .def_ "quotient", .def_ "floor_root", .def_ "is_square", .def_ "core_told", .def_ "is_field", .def_ "check_field", .def_ "is_surd", .def_ "check_surd", .def_ "surd_of", .def_ "is_nothing", .def_ "surd_plus", .def_ "surd_less", .def_ "surd_times", .def_ "norm_of", .def_ "surd_inverse", .def_ "surd_by", .def_ "sign_of", .def_ "surd_sign", .def_ "surd_is_less", .def_ "surd_floor", .def_ "fraction_between"]
def fa1 : List Gf := [.def_ "check_two_surds", .def_ "surd_sum", .def_ "surd_parted", .def_ "surd_compared", .def_ "surd_rounded", .def_ "surd_between", .def_ "_law_pot", .def_ "_law_take", .def_ "_law_of", .def_ "_law_cells", .def_ "_law_reduced", .def_ "_law_sum", .def_ "_law_times", .def_ "_law_minus", .def_ "_law_parted", .def_ "_law_floor_root", .def_ "_law_floor", .def_ "_law_start", .def_ "_law_is_near", .def_ "_law_goes_on", .def_ "_law_ends", .def_ "_law_right", .def_ "law", .free "abs", .free "all", .free "bool", .free "int", .free "isinstance", .free "len", .free "list"]
def fa2 : List Gf := [.free "max", .free "min", .free "range", .free "sum", .free "tuple", .dat "BEYOND" (.int (10 ^ 300)), .dat "NOTHING" (.tuple [.int 0, .int 1]), .dat "MOST_PRIME" (.int 10000), .blt "gcd" "math.gcd", .blt "isqrt" "math.isqrt"]
def fa : List Gf := fa0 ++ fa1 ++ fa2
abbrev dat_BEYOND : D := .int (10 ^ 300)
abbrev dat_NOTHING : D := .tuple [.int 0, .int 1]
abbrev dat_MOST_PRIME : D := .int 10000
structure Cs (K : Fg) (mg : Str → Option Value) : Prop where
  f_abs : mg "abs" = none
  f_all : mg "all" = none
  f_bool : mg "bool" = none
  f_int : mg "int" = none
  f_isinstance : mg "isinstance" = none
  f_len : mg "len" = none
  f_list : mg "list" = none
  f_max : mg "max" = none
  f_min : mg "min" = none
  f_range : mg "range" = none
  f_sum : mg "sum" = none
  f_tuple : mg "tuple" = none
  d_BEYOND : ∃ v u, mg "BEYOND" = some u ∧ RelV v u ∧ ∀ H, Dp K H v dat_BEYOND
  d_NOTHING : ∃ v u, mg "NOTHING" = some u ∧ RelV v u ∧ ∀ H, Dp K H v dat_NOTHING
  d_MOST_PRIME : ∃ v u, mg "MOST_PRIME" = some u ∧ RelV v u ∧ ∀ H, Dp K H v dat_MOST_PRIME
  g_gcd : mg "gcd" = some (.builtin "math.gcd")
  g_isqrt : mg "isqrt" = some (.builtin "math.isqrt")
theorem cs_mk {K : Fg} {h : Heap} {mg : Str → Option Value} (X : K.In h) (G : h.Ns mainGlobals mg) (c : SaysX fa fn K) : Cs K mg :=
  ⟨He.free_ok X G (c.fact 53 (f := .free "abs") rfl),
   He.free_ok X G (c.fact 54 (f := .free "all") rfl),
   He.free_ok X G (c.fact 55 (f := .free "bool") rfl),
   He.free_ok X G (c.fact 56 (f := .free "int") rfl),
   He.free_ok X G (c.fact 57 (f := .free "isinstance") rfl),
   He.free_ok X G (c.fact 58 (f := .free "len") rfl),
   He.free_ok X G (c.fact 59 (f := .free "list") rfl),
   He.free_ok X G (c.fact 60 (f := .free "max") rfl),
   He.free_ok X G (c.fact 61 (f := .free "min") rfl),
   He.free_ok X G (c.fact 62 (f := .free "range") rfl),
   He.free_ok X G (c.fact 63 (f := .free "sum") rfl),
   He.free_ok X G (c.fact 64 (f := .free "tuple") rfl),
   gdat_ok X G (c.fact 65 (f := .dat "BEYOND" dat_BEYOND) rfl),
   gdat_ok X G (c.fact 66 (f := .dat "NOTHING" dat_NOTHING) rfl),
   gdat_ok X G (c.fact 67 (f := .dat "MOST_PRIME" dat_MOST_PRIME) rfl),
   gblt_ok X G (c.fact 68 (f := .blt "gcd" "math.gcd") rfl),
   gblt_ok X G (c.fact 69 (f := .blt "isqrt" "math.isqrt") rfl)⟩
theorem df_mk {K : Fg} {h : Heap} {mg : Str → Option Value} (X : K.In h) (G : h.Ns mainGlobals mg) (c : SaysX fa fn K) : DfX K mg "is_integer" s_is_integer ["value"] ∧ DfX K mg "is_between" s_is_between ["value", "low", "high"] ∧ DfX K mg "common" s_common ["one", "other"] ∧ DfX K mg "reduced" s_reduced ["top", "low"] ∧ DfX K mg "is_fraction" s_is_fraction ["value"] ∧ DfX K mg "is_told_fraction" s_is_told_fraction ["value"] ∧ DfX K mg "added" s_added ["one", "other"] ∧ DfX K mg "difference" s_difference ["one", "other"] ∧ DfX K mg "product_of" s_product_of ["one", "other"] ∧ DfX K mg "quotient" s_quotient ["one", "other"] ∧ DfX K mg "floor_root" s_floor_root ["number"] ∧ DfX K mg "is_square" s_is_square ["number"] ∧ DfX K mg "core_told" s_core_told ["number"] ∧ DfX K mg "is_field" s_is_field ["value"] ∧ DfX K mg "check_field" s_check_field ["field"] ∧ DfX K mg "is_surd" s_is_surd ["field", "value"] ∧ DfX K mg "check_surd" s_check_surd ["field", "value"] ∧ DfX K mg "surd_of" s_surd_of ["fraction"] ∧ DfX K mg "is_nothing" s_is_nothing ["one"] ∧ DfX K mg "surd_plus" s_surd_plus ["one", "other"] ∧ DfX K mg "surd_less" s_surd_less ["one", "other"] ∧ DfX K mg "surd_times" s_surd_times ["field", "one", "other"] ∧ DfX K mg "norm_of" s_norm_of ["field", "one"] ∧ DfX K mg "surd_inverse" s_surd_inverse ["field", "one"] ∧ DfX K mg "surd_by" s_surd_by ["field", "one", "other"] ∧ DfX K mg "sign_of" s_sign_of ["one"] ∧ DfX K mg "surd_sign" s_surd_sign ["field", "one"] ∧ DfX K mg "surd_is_less" s_surd_is_less ["field", "one", "other"] ∧ DfX K mg "surd_floor" s_surd_floor ["field", "one"] ∧ DfX K mg "fraction_between" s_fraction_between ["field", "one", "other"] ∧ DfX K mg "check_two_surds" s_check_two_surds ["field", "one", "other"] ∧ DfX K mg "surd_sum" s_surd_sum ["field", "one", "other"] ∧ DfX K mg "surd_parted" s_surd_parted ["field", "one", "other"] ∧ DfX K mg "surd_compared" s_surd_compared ["field", "one", "other"] ∧ DfX K mg "surd_rounded" s_surd_rounded ["field", "one"] ∧ DfX K mg "surd_between" s_surd_between ["field", "one", "other"] ∧ DfX K mg "_law_pot" s_law_pot ["script", "place"] ∧ DfX K mg "_law_take" s_law_take ["pot", "upto"] ∧ DfX K mg "_law_of" s_law_of ["pot", "some"] ∧ DfX K mg "_law_cells" s_law_cells ["script", "most"] ∧ DfX K mg "_law_reduced" s_law_reduced ["top", "low"] ∧ DfX K mg "_law_sum" s_law_sum ["one", "other"] ∧ DfX K mg "_law_times" s_law_times ["one", "other"] ∧ DfX K mg "_law_minus" s_law_minus ["one"] ∧ DfX K mg "_law_parted" s_law_parted ["one", "other"] ∧ DfX K mg "_law_floor_root" s_law_floor_root ["number"] ∧ DfX K mg "_law_floor" s_law_floor ["field", "p", "q"] ∧ DfX K mg "_law_start" s_law_start ["pot", "field"] ∧ DfX K mg "_law_is_near" s_law_is_near ["field", "one", "top", "low"] ∧ DfX K mg "_law_goes_on" s_law_goes_on ["pot", "field"] ∧ DfX K mg "_law_ends" s_law_ends ["pot"] ∧ DfX K mg "_law_right" s_law_right ["pot"] ∧ DfX K mg "law" s_law ["script"] :=
  ⟨dfX X G c 0 0 rfl rfl fun _ _ _ _ _ _ us hl => match us, hl with | [_], _ => rfl,
   dfX X G c 1 1 rfl rfl fun _ _ _ _ _ _ us hl => match us, hl with | [_, _, _], _ => rfl,
   dfX X G c 2 2 rfl rfl fun _ _ _ _ _ _ us hl => match us, hl with | [_, _], _ => rfl,
   dfX X G c 3 3 rfl rfl fun _ _ _ _ _ _ us hl => match us, hl with | [_, _], _ => rfl,
   dfX X G c 4 4 rfl rfl fun _ _ _ _ _ _ us hl => match us, hl with | [_], _ => rfl,
   dfX X G c 5 5 rfl rfl fun _ _ _ _ _ _ us hl => match us, hl with | [_], _ => rfl,
   dfX X G c 6 6 rfl rfl fun _ _ _ _ _ _ us hl => match us, hl with | [_, _], _ => rfl,
   dfX X G c 7 7 rfl rfl fun _ _ _ _ _ _ us hl => match us, hl with | [_, _], _ => rfl,
   dfX X G c 8 8 rfl rfl fun _ _ _ _ _ _ us hl => match us, hl with | [_, _], _ => rfl,
   dfX X G c 9 9 rfl rfl fun _ _ _ _ _ _ us hl => match us, hl with | [_, _], _ => rfl,
   dfX X G c 10 10 rfl rfl fun _ _ _ _ _ _ us hl => match us, hl with | [_], _ => rfl,
   dfX X G c 11 11 rfl rfl fun _ _ _ _ _ _ us hl => match us, hl with | [_], _ => rfl,
   dfX X G c 12 12 rfl rfl fun _ _ _ _ _ _ us hl => match us, hl with | [_], _ => rfl,
   dfX X G c 13 13 rfl rfl fun _ _ _ _ _ _ us hl => match us, hl with | [_], _ => rfl,
   dfX X G c 14 14 rfl rfl fun _ _ _ _ _ _ us hl => match us, hl with | [_], _ => rfl,
   dfX X G c 15 15 rfl rfl fun _ _ _ _ _ _ us hl => match us, hl with | [_, _], _ => rfl,
   dfX X G c 16 16 rfl rfl fun _ _ _ _ _ _ us hl => match us, hl with | [_, _], _ => rfl,
   dfX X G c 17 17 rfl rfl fun _ _ _ _ _ _ us hl => match us, hl with | [_], _ => rfl,
   dfX X G c 18 18 rfl rfl fun _ _ _ _ _ _ us hl => match us, hl with | [_], _ => rfl,
   dfX X G c 19 19 rfl rfl fun _ _ _ _ _ _ us hl => match us, hl with | [_, _], _ => rfl,
   dfX X G c 20 20 rfl rfl fun _ _ _ _ _ _ us hl => match us, hl with | [_, _], _ => rfl,
   dfX X G c 21 21 rfl rfl fun _ _ _ _ _ _ us hl => match us, hl with | [_, _, _], _ => rfl,
   dfX X G c 22 22 rfl rfl fun _ _ _ _ _ _ us hl => match us, hl with | [_, _], _ => rfl,
   dfX X G c 23 23 rfl rfl fun _ _ _ _ _ _ us hl => match us, hl with | [_, _], _ => rfl,
   dfX X G c 24 24 rfl rfl fun _ _ _ _ _ _ us hl => match us, hl with | [_, _, _], _ => rfl,
   dfX X G c 25 25 rfl rfl fun _ _ _ _ _ _ us hl => match us, hl with | [_], _ => rfl,
   dfX X G c 26 26 rfl rfl fun _ _ _ _ _ _ us hl => match us, hl with | [_, _], _ => rfl,
   dfX X G c 27 27 rfl rfl fun _ _ _ _ _ _ us hl => match us, hl with | [_, _, _], _ => rfl,
   dfX X G c 28 28 rfl rfl fun _ _ _ _ _ _ us hl => match us, hl with | [_, _], _ => rfl,
   dfX X G c 29 29 rfl rfl fun _ _ _ _ _ _ us hl => match us, hl with | [_, _, _], _ => rfl,
   dfX X G c 30 30 rfl rfl fun _ _ _ _ _ _ us hl => match us, hl with | [_, _, _], _ => rfl,
   dfX X G c 31 31 rfl rfl fun _ _ _ _ _ _ us hl => match us, hl with | [_, _, _], _ => rfl,
   dfX X G c 32 32 rfl rfl fun _ _ _ _ _ _ us hl => match us, hl with | [_, _, _], _ => rfl,
   dfX X G c 33 33 rfl rfl fun _ _ _ _ _ _ us hl => match us, hl with | [_, _, _], _ => rfl,
   dfX X G c 34 34 rfl rfl fun _ _ _ _ _ _ us hl => match us, hl with | [_, _], _ => rfl,
   dfX X G c 35 35 rfl rfl fun _ _ _ _ _ _ us hl => match us, hl with | [_, _, _], _ => rfl,
   dfX X G c 36 36 rfl rfl fun _ _ _ _ _ _ us hl => match us, hl with | [_, _], _ => rfl,
   dfX X G c 37 37 rfl rfl fun _ _ _ _ _ _ us hl => match us, hl with | [_, _], _ => rfl,
   dfX X G c 38 38 rfl rfl fun _ _ _ _ _ _ us hl => match us, hl with | [_, _], _ => rfl,
   dfX X G c 39 39 rfl rfl fun _ _ _ _ _ _ us hl => match us, hl with | [_, _], _ => rfl,
   dfX X G c 40 40 rfl rfl fun _ _ _ _ _ _ us hl => match us, hl with | [_, _], _ => rfl,
   dfX X G c 41 41 rfl rfl fun _ _ _ _ _ _ us hl => match us, hl with | [_, _], _ => rfl,
   dfX X G c 42 42 rfl rfl fun _ _ _ _ _ _ us hl => match us, hl with | [_, _], _ => rfl,
   dfX X G c 43 43 rfl rfl fun _ _ _ _ _ _ us hl => match us, hl with | [_], _ => rfl,
   dfX X G c 44 44 rfl rfl fun _ _ _ _ _ _ us hl => match us, hl with | [_, _], _ => rfl,
   dfX X G c 45 45 rfl rfl fun _ _ _ _ _ _ us hl => match us, hl with | [_], _ => rfl,
   dfX X G c 46 46 rfl rfl fun _ _ _ _ _ _ us hl => match us, hl with | [_, _, _], _ => rfl,
   dfX X G c 47 47 rfl rfl fun _ _ _ _ _ _ us hl => match us, hl with | [_, _], _ => rfl,
   dfX X G c 48 48 rfl rfl fun _ _ _ _ _ _ us hl => match us, hl with | [_, _, _, _], _ => rfl,
   dfX X G c 49 49 rfl rfl fun _ _ _ _ _ _ us hl => match us, hl with | [_, _], _ => rfl,
   dfX X G c 50 50 rfl rfl fun _ _ _ _ _ _ us hl => match us, hl with | [_], _ => rfl,
   dfX X G c 51 51 rfl rfl fun _ _ _ _ _ _ us hl => match us, hl with | [_], _ => rfl,
   dfX X G c 52 52 rfl rfl fun _ _ _ _ _ _ us hl => match us, hl with | [_], _ => rfl⟩
end H50

namespace H50
open PySem PySem.Spec PyProof.Rows L2 DL
theorem kit_ii : kitB "int" "int" = some true := by decide +kernel
theorem kit_ib : kitB "int" "bool" = some false := by decide +kernel
theorem kit_tt : kitB "tuple" "tuple" = some true := by decide +kernel
def c_is_integer : Call := fun ds T => ∃ i, ds = [.int i] ∧ T (.bool true)
theorem len_is_integer {ds T} (h : c_is_integer ds T) : ds.length = 1 := by obtain ⟨_, rfl, _⟩ := h; rfl
abbrev N_is_integer : List Str := ["value"]
theorem sc_is_integer : FnScope N_is_integer ["value"] (defScope s_is_integer) := ⟨rfl, rfl, rfl, by decide +kernel, rfl, by decide +kernel, by decide +kernel⟩
set_option maxHeartbeats 2000000 in
theorem ok_is_integer {Pg : Program} {w : World} {K : Fg} {mg : Str → Option Value} {base : Heap} (C : Cs K mg) (D0 : DfX K mg "is_integer" s_is_integer ["value"])  : OkF Pg w K mg base "is_integer" 1 ["value"] (spP K c_is_integer) := by
  refine okP D0 sc_is_integer (fun ds T h => len_is_integer h) fun f cdv A outer s H E hr => ⟨_, (pss_one (ps_ret (pe_and (pe_callB call_isi (by rfl) C.f_isinstance (by decide +kernel) (pa_cons (pv 0) (pa_cons (pe_bltn (v := .ty "int") (by rfl) C.f_int (by decide +kernel) rfl) pa_nil))) (pe_one (pe_not (pe_callB call_isi (by rfl) C.f_isinstance (by decide +kernel) (pa_cons (pv 0) (pa_cons (pe_bltn (v := .ty "bool") (by rfl) C.f_bool (by decide +kernel) rfl) pa_nil)))))))), fun ds T h => ?_⟩
  obtain ⟨i, rfl, hT⟩ := h
  exact ds_retp (dp_andV (dp_isi (dp_var rfl) kit_ii) fun _ => dp_notV (dp_isi (dp_var rfl) kit_ib)) hT
def c_is_between : Call := fun ds T => ∃ v lo hi, ds = [.int v, .int lo, .int hi] ∧ T (.bool (decide (lo ≤ v) && decide (v ≤ hi)))
theorem len_is_between {ds T} (h : c_is_between ds T) : ds.length = 3 := by obtain ⟨_, _, _, rfl, _⟩ := h; rfl
abbrev N_is_between : List Str := ["value", "low", "high"]
theorem sc_is_between : FnScope N_is_between ["value", "low", "high"] (defScope s_is_between) := ⟨rfl, rfl, rfl, by decide +kernel, rfl, by decide +kernel, by decide +kernel⟩
set_option maxHeartbeats 2000000 in
theorem ok_is_between {Pg : Program} {w : World} {K : Fg} {mg : Str → Option Value} {base : Heap} (C : Cs K mg) (D0 : DfX K mg "is_between" s_is_between ["value", "low", "high"]) (h_is_integer : OkF Pg w K mg base "is_integer" 1 ["value"] (spP K c_is_integer)) : OkF Pg w K mg base "is_between" 2 ["value", "low", "high"] (spP K c_is_between) := by
  refine okP D0 sc_is_between (fun ds T h => len_is_between h) fun f cdv A outer s H E hr => ⟨_, (pss_one (ps_ret (pe_and (pe_cl h_is_integer (hr.mono (by decide)) (pa_cons (pv 0) pa_nil)) (pe_one (pe_chain op_le op_le (pv 1) (pv 0) (pv 2)))))), fun ds T h => ?_⟩
  obtain ⟨v, lo, hi, rfl, hT⟩ := h
  exact ds_retp (dp_andV (dp_call (dap_cons (dp_var rfl) dap_nil) ⟨v, rfl, rfl⟩) fun _ => dp_chain (dp_var rfl) (dp_var rfl) (r2_I0 (fun _ => .bl _) rfl) (fun _ => dp_var rfl) fun _ => r2_I0 (fun _ => .bl _) rfl) hT
def c_common : Call := fun ds T => ∃ a b : Int, ds = [.int a, .int b] ∧ T (.int ((Nat.gcd a.natAbs b.natAbs : Nat) : Int))
theorem len_common {ds T} (h : c_common ds T) : ds.length = 2 := by obtain ⟨_, _, rfl, _⟩ := h; rfl
abbrev N_common : List Str := ["one", "other"]
theorem sc_common : FnScope N_common ["one", "other"] (defScope s_common) := ⟨rfl, rfl, rfl, by decide +kernel, rfl, by decide +kernel, by decide +kernel⟩
set_option maxHeartbeats 2000000 in
theorem ok_common {Pg : Program} {w : World} {K : Fg} {mg : Str → Option Value} {base : Heap} (C : Cs K mg) (D0 : DfX K mg "common" s_common ["one", "other"])  : OkF Pg w K mg base "common" 1 ["one", "other"] (spP K c_common) := by
  refine okP D0 sc_common (fun ds T h => len_common h) fun f cdv A outer s H E hr => ⟨_, (pss_one (ps_ret (pe_callBfun cr_gcd (by rfl) C.g_gcd (pa_cons (pv 0) (pa_cons (pv 1) pa_nil))))), fun ds T h => ?_⟩
  obtain ⟨a, b, rfl, hT⟩ := h
  exact ds_retp (dp_gcd (dp_var rfl) (dp_var rfl)) hT
def c_reduced : Call := fun ds T => ∃ (t l : Int) (m : Nat), ds = [.int t, .int l] ∧ l ≠ 0 ∧ l.natAbs < 2 ^ m ∧ m ≤ 8990 ∧ T (eR (Rat.divInt t l))
theorem len_reduced {ds T} (h : c_reduced ds T) : ds.length = 2 := by obtain ⟨_, _, _, rfl, _⟩ := h; rfl
abbrev N_reduced : List Str := ["top", "low", "by"]
theorem sc_reduced : FnScope N_reduced ["top", "low"] (defScope s_reduced) := ⟨rfl, rfl, rfl, by decide +kernel, rfl, by decide +kernel, by decide +kernel⟩
set_option maxHeartbeats 2000000 in
theorem ok_reduced {Pg : Program} {w : World} {K : Fg} {mg : Str → Option Value} {base : Heap} (C : Cs K mg) (D0 : DfX K mg "reduced" s_reduced ["top", "low"]) (h_common : OkF Pg w K mg base "common" 1 ["one", "other"] (spP K c_common)) : OkF Pg w K mg base "reduced" 2 ["top", "low"] (spP K c_reduced) := by
  refine okP D0 sc_reduced (fun ds T h => len_reduced h) fun f cdv A outer s H E hr => ⟨_, (pss_cons (ps_set (i := 2) sc_reduced.nd rfl (.inl rfl) (pe_ifExp (pt_cmpR op_gt (pv 1) pe_int (nomark _)) (pe_cl h_common (hr.mono (by decide)) (pa_cons (pv 0) (pa_cons (pv 1) pa_nil))) (pe_op op_sub pe_int (pe_cl h_common (hr.mono (by decide)) (pa_cons (pv 0) (pa_cons (pv 1) pa_nil))))))
      (pss_one (ps_ret (pe_tup (pa_cons (pe_op op_fdivX (pv 0) (pv 2)) (pa_cons (pe_op op_fdivX (pv 1) (pv 2)) pa_nil)))))), fun ds T h => ?_⟩
  obtain ⟨t, l, m, rfl, hl, hb, hm, hT⟩ := h
  have hg : Nat.gcd t.natAbs l.natAbs ≠ 0 := fun z => hl (Int.natAbs_eq_zero.mp (Nat.gcd_eq_zero_iff.mp z).2)
  have hg2 : Nat.gcd t.natAbs l.natAbs < 2 ^ m := Nat.lt_of_le_of_lt (Nat.gcd_le_right _ (Int.natAbs_pos.mpr hl)) hb
  refine ds_let (dp_ite (p := 0 < l) (dtp_test (dp_gt (dp_var rfl) dp_int)) (fun _ => dp_call (dap_cons (dp_var rfl) (dap_cons (dp_var rfl) dap_nil)) ⟨t, l, rfl, rfl⟩) (fun _ => dp_sub dp_int (dp_call (dap_cons (dp_var rfl) (dap_cons (dp_var rfl) dap_nil)) ⟨t, l, rfl, rfl⟩))) ?_
  by_cases p : 0 < l
  · rw [if_pos p]
    obtain ⟨e1, e2⟩ := red_pos (t := t) p
    have hc : ∀ i : Int, CDivX i ((Nat.gcd t.natAbs l.natAbs : Nat) : Int) := fun i => cdiv (by omega) (by rw [Int.natAbs_natCast]; exact hg2) (by omega)
    refine ds_retp (dp_tup (dap_cons (dp_div (dp_var rfl) (dp_var rfl) (hc _)) (dap_cons (dp_div (dp_var rfl) (dp_var rfl) (hc _)) dap_nil))) ?_
    rw [e1, e2]; exact hT
  · rw [if_neg p]
    obtain ⟨e1, e2⟩ := red_neg (t := t) (l := l) (by omega)
    have hc : ∀ i : Int, CDivX i (0 - ((Nat.gcd t.natAbs l.natAbs : Nat) : Int)) := fun i => cdiv (by omega) (b := m) (by omega) (by omega)
    refine ds_retp (dp_tup (dap_cons (dp_div (dp_var rfl) (dp_var rfl) (hc _)) (dap_cons (dp_div (dp_var rfl) (dp_var rfl) (hc _)) dap_nil))) ?_
    rw [e1, e2]; exact hT
def c_is_fraction : Call := fun ds T => ∃ q, ds = [eR q] ∧ T (.bool true)
theorem len_is_fraction {ds T} (h : c_is_fraction ds T) : ds.length = 1 := by obtain ⟨_, rfl, _⟩ := h; rfl
abbrev N_is_fraction : List Str := ["value", "part"]
theorem sc_is_fraction : FnScope N_is_fraction ["value"] (defScope s_is_fraction) := ⟨rfl, rfl, rfl, by decide +kernel, rfl, by decide +kernel, by decide +kernel⟩
set_option maxHeartbeats 2000000 in
theorem ok_is_fraction {Pg : Program} {w : World} {K : Fg} {mg : Str → Option Value} {base : Heap} (C : Cs K mg) (D0 : DfX K mg "is_fraction" s_is_fraction ["value"]) (h_is_integer : OkF Pg w K mg base "is_integer" 1 ["value"] (spP K c_is_integer)) (h_common : OkF Pg w K mg base "common" 1 ["one", "other"] (spP K c_common)) : OkF Pg w K mg base "is_fraction" 2 ["value"] (spP K c_is_fraction) := by
  refine okP D0 sc_is_fraction (fun ds T h => len_is_fraction h) fun f cdv A outer s H E hr => ⟨_, (pss_cons (ps_if (PW.pt (pw_or (pt_not (pt_val (pe_callB call_isi (by rfl) C.f_isinstance (by decide +kernel) (pa_cons (pv 0) (pa_cons (pe_bltn (v := .ty "tuple") (by rfl) C.f_tuple (by decide +kernel) rfl) pa_nil))))) (pw_or (pt_cmpR op_ne (pe_callB call_len_seq (by rfl) C.f_len (by decide +kernel) (pa_cons (pv 0) pa_nil)) pe_int (nomark _)) (pw_or1 (pt_not (pt_val (pe_callB (cr_all rfl) (by rfl) C.f_all (by decide +kernel) (pa_cons (pe_lc (own := [("part", 1)]) (g := gName 1) rfl sc_is_fraction.nd (pi_tup (pv 0)) (blkOk_by (N := N_is_fraction) (sc := defScope s_is_fraction) (by decide +kernel)) (fun _ _ _ _ _ => (pg_name (i := 1) sc_is_fraction.nd rfl (.inl rfl))) (fun _ _ _ _ _ => pts_nil) (fun _ _ _ _ _ => (pe_cl h_is_integer (hr.mono (by decide)) (pa_cons (pv 1) pa_nil)))) pa_nil))))))))
        (pss_one (ps_ret pe_bl))
        pss_nil)
      (pss_one (ps_ret (pe_and (pe_cmpR op_ge (pe_ix ix_tup (pv 0) pe_int (fun _ _ => rfl)) pe_int (nomark _)) (pe_one (pe_cmpR op_eq (pe_cl h_common (hr.mono (by decide)) (pa_cons (pe_ix ix_tup (pv 0) pe_int (fun _ _ => rfl)) (pa_cons (pe_ix ix_tup (pv 0) pe_int (fun _ _ => rfl)) pa_nil))) pe_int (nomark _))))))), fun ds T h => ?_⟩
  obtain ⟨q, rfl, hT⟩ := h
  refine ds_when (b := false) (DTP.is (dtp_or (dtp_not (dtp_B (dp_isi (dp_var rfl) kit_tt))) fun _ => dtp_or (dtp_test (dp_neI (dp_lenT (dp_var rfl)) dp_int)) fun _ => dtp_not (dtp_B (dp_all (bs := [true, true]) (dp_lcT (ds := [.int q.num, .int (q.den : Int)]) (fun d => .bool true) (by simp) (dp_var rfl) (by show 2 < sizeLine; decide) (fun d hd => ?_))))) rfl) (fun z => nomatch z) fun _ => ?_
  · have : ∃ i, d = .int i := by
      rcases List.mem_cons.mp hd with z | z
      · exact ⟨_, z⟩
      · rcases List.mem_cons.mp z with z | z
        · exact ⟨_, z⟩
        · cases z
    obtain ⟨i, rfl⟩ := this
    exact dp_call (dap_cons (dp_var rfl) dap_nil) ⟨i, rfl, rfl⟩
  · refine ds_retp (dp_andV (dp_ge (dp_ixT (dp_var rfl) dp_int) dp_int) fun _ => dp_eqI (dp_call (dap_cons (dp_ixT (dp_var rfl) dp_int) (dap_cons (dp_ixT (dp_var rfl) dp_int) dap_nil)) ⟨_, _, rfl, rfl⟩) dp_int) ?_
    have h1 : (1 : Int) ≤ (q.den : Int) := by have := q.den_pos; omega
    have h2 : ((Nat.gcd q.num.natAbs ((q.den : Int)).natAbs : Nat) : Int) = 1 := by
      rw [Int.natAbs_natCast]
      have := q.reduced
      unfold Nat.Coprime at this
      rw [this]; rfl
    rw [h2, decide_eq_true h1]
    exact hT
def c_is_told_fraction : Call := fun ds T => ∃ q : Rat, ds = [eR q] ∧ T (.bool (decide ((q.num.natAbs : Int) < 10 ^ 300) && decide ((q.den : Int) < 10 ^ 300)))
theorem len_is_told_fraction {ds T} (h : c_is_told_fraction ds T) : ds.length = 1 := by obtain ⟨_, rfl, _⟩ := h; rfl
abbrev N_is_told_fraction : List Str := ["value"]
theorem sc_is_told_fraction : FnScope N_is_told_fraction ["value"] (defScope s_is_told_fraction) := ⟨rfl, rfl, rfl, by decide +kernel, rfl, by decide +kernel, by decide +kernel⟩
set_option maxHeartbeats 2000000 in
theorem ok_is_told_fraction {Pg : Program} {w : World} {K : Fg} {mg : Str → Option Value} {base : Heap} (C : Cs K mg) (D0 : DfX K mg "is_told_fraction" s_is_told_fraction ["value"]) (h_is_fraction : OkF Pg w K mg base "is_fraction" 2 ["value"] (spP K c_is_fraction)) : OkF Pg w K mg base "is_told_fraction" 3 ["value"] (spP K c_is_told_fraction) := by
  obtain ⟨v_BEYOND, u_BEYOND, m_BEYOND, r_BEYOND, d_BEYOND⟩ := C.d_BEYOND
  refine okP D0 sc_is_told_fraction (fun ds T h => len_is_told_fraction h) fun f cdv A outer s H E hr => ⟨_, (pss_one (ps_ret (pe_and (pe_cl h_is_fraction (hr.mono (by decide)) (pa_cons (pv 0) pa_nil)) (pe_and (pe_cmpR op_lt (pe_callB call_abs (by rfl) C.f_abs (by decide +kernel) (pa_cons (pe_ix ix_tup (pv 0) pe_int (fun _ _ => rfl)) pa_nil)) (pe_glob (by rfl) m_BEYOND r_BEYOND) (nomark _)) (pe_one (pe_cmpR op_lt (pe_ix ix_tup (pv 0) pe_int (fun _ _ => rfl)) (pe_glob (by rfl) m_BEYOND r_BEYOND) (nomark _))))))), fun ds T h => ?_⟩
  obtain ⟨q, rfl, hT⟩ := h
  refine ds_retp (dp_andV (dp_call (dap_cons (dp_var rfl) dap_nil) ⟨q, rfl, rfl⟩) fun _ => dp_andV (dp_lt (dp_abs (dp_ixT (dp_var rfl) dp_int)) (dp_c d_BEYOND)) fun _ => dp_lt (dp_ixT (dp_var rfl) dp_int) (dp_c d_BEYOND)) ?_
  rw [Bool.true_and]
  exact hT
def c_bin (g : Rat → Rat → Rat) : Call := fun ds T => ∃ (a b : Rat) (m n : Nat), ds = [eR a, eR b] ∧ SzR m a ∧ SzR n b ∧ m + n ≤ 8980 ∧ T (eR (g a b))
abbrev c_added : Call := c_bin fun a b => a + b
abbrev eP (n d : Int) : D := .tuple [.int n, .int d]
def c_difference : Call := fun ds T => ∃ (n d : Int) (b : Rat) (m k : Nat), ds = [eP n d, eR b] ∧ 0 < d ∧ n.natAbs < 2 ^ m ∧ d.natAbs < 2 ^ m ∧ SzR k b ∧ m + k ≤ 8980 ∧ T (eR (Rat.divInt n d - b))
theorem dif_of {a b : Rat} {m k : Nat} {T : D → Prop} (ha : SzR m a) (hb : SzR k b) (h : m + k ≤ 8980) (hT : T (eR (a - b))) : c_difference [eR a, eR b] T := ⟨a.num, a.den, b, m, k, rfl, den_pos' a, ha.1, szR_den ha, hb, h, by rw [Rat.num_divInt_den]; exact hT⟩
abbrev c_product_of : Call := c_bin fun a b => a * b
theorem len_bin {g ds T} (h : c_bin g ds T) : ds.length = 2 := by obtain ⟨_, _, _, _, rfl, _⟩ := h; rfl
theorem len_added {ds T} (h : c_added ds T) : ds.length = 2 := len_bin h
theorem len_difference {ds T} (h : c_difference ds T) : ds.length = 2 := by obtain ⟨_, _, _, _, _, rfl, _⟩ := h; rfl
theorem len_product_of {ds T} (h : c_product_of ds T) : ds.length = 2 := len_bin h
theorem mden {a b : Rat} {m n : Nat} (h : SzR m a) (k : SzR n b) : ((a.den : Int) * (b.den : Int)) ≠ 0 ∧ ((a.den : Int) * (b.den : Int)).natAbs < 2 ^ (m + n) := ⟨by have := Int.mul_pos (den_pos' a) (den_pos' b); omega, mul_lt2 (szR_den h) (szR_den k)⟩
abbrev N_added : List Str := ["one", "other"]
theorem sc_added : FnScope N_added ["one", "other"] (defScope s_added) := ⟨rfl, rfl, rfl, by decide +kernel, rfl, by decide +kernel, by decide +kernel⟩
set_option maxHeartbeats 2000000 in
theorem ok_added {Pg : Program} {w : World} {K : Fg} {mg : Str → Option Value} {base : Heap} (C : Cs K mg) (D0 : DfX K mg "added" s_added ["one", "other"]) (h_reduced : OkF Pg w K mg base "reduced" 2 ["top", "low"] (spP K c_reduced)) : OkF Pg w K mg base "added" 3 ["one", "other"] (spP K c_added) := by
  refine okP D0 sc_added (fun ds T h => len_added h) fun f cdv A outer s H E hr => ⟨_, (pss_one (ps_ret (pe_cl h_reduced (hr.mono (by decide)) (pa_cons (pe_op op_add (pe_op op_mulW (pe_ix ix_tup (pv 0) pe_int (fun _ _ => rfl)) (pe_ix ix_tup (pv 1) pe_int (fun _ _ => rfl))) (pe_op op_mulW (pe_ix ix_tup (pv 1) pe_int (fun _ _ => rfl)) (pe_ix ix_tup (pv 0) pe_int (fun _ _ => rfl)))) (pa_cons (pe_op op_mulW (pe_ix ix_tup (pv 0) pe_int (fun _ _ => rfl)) (pe_ix ix_tup (pv 1) pe_int (fun _ _ => rfl))) pa_nil))))), fun ds T h => ?_⟩
  obtain ⟨a, b, m, n, rfl, ha, hb, hmn, hT⟩ := h
  obtain ⟨z1, z2⟩ := mden ha hb
  refine ds_retp (dp_call (dap_cons (dp_add (dp_mul (dp_ixT (dp_var rfl) dp_int) (dp_ixT (dp_var rfl) dp_int) (cmul ha.1 (szR_den hb) (by omega))) (dp_mul (dp_ixT (dp_var rfl) dp_int) (dp_ixT (dp_var rfl) dp_int) (cmul hb.1 (szR_den ha) (by omega)))) (dap_cons (dp_mul (dp_ixT (dp_var rfl) dp_int) (dp_ixT (dp_var rfl) dp_int) (cmul (szR_den ha) (szR_den hb) (by omega))) dap_nil)) ⟨_, _, m + n, rfl, z1, z2, by omega, rfl⟩) ?_
  rw [addE]; exact hT
abbrev N_difference : List Str := ["one", "other"]
theorem sc_difference : FnScope N_difference ["one", "other"] (defScope s_difference) := ⟨rfl, rfl, rfl, by decide +kernel, rfl, by decide +kernel, by decide +kernel⟩
set_option maxHeartbeats 2000000 in
theorem ok_difference {Pg : Program} {w : World} {K : Fg} {mg : Str → Option Value} {base : Heap} (C : Cs K mg) (D0 : DfX K mg "difference" s_difference ["one", "other"]) (h_reduced : OkF Pg w K mg base "reduced" 2 ["top", "low"] (spP K c_reduced)) : OkF Pg w K mg base "difference" 3 ["one", "other"] (spP K c_difference) := by
  refine okP D0 sc_difference (fun ds T h => len_difference h) fun f cdv A outer s H E hr => ⟨_, (pss_one (ps_ret (pe_cl h_reduced (hr.mono (by decide)) (pa_cons (pe_op op_sub (pe_op op_mulW (pe_ix ix_tup (pv 0) pe_int (fun _ _ => rfl)) (pe_ix ix_tup (pv 1) pe_int (fun _ _ => rfl))) (pe_op op_mulW (pe_ix ix_tup (pv 1) pe_int (fun _ _ => rfl)) (pe_ix ix_tup (pv 0) pe_int (fun _ _ => rfl)))) (pa_cons (pe_op op_mulW (pe_ix ix_tup (pv 0) pe_int (fun _ _ => rfl)) (pe_ix ix_tup (pv 1) pe_int (fun _ _ => rfl))) pa_nil))))), fun ds T h => ?_⟩
  obtain ⟨n, d, b, m, k, rfl, hd, hn, hd2, hb, hmk, hT⟩ := h
  have z1 : d * (b.den : Int) ≠ 0 := by have := Int.mul_pos hd (den_pos' b); omega
  refine ds_retp (dp_call (dap_cons (dp_sub (dp_mul (dp_ixT (dp_var rfl) dp_int) (dp_ixT (dp_var rfl) dp_int) (cmul hn (szR_den hb) (by omega))) (dp_mul (dp_ixT (dp_var rfl) dp_int) (dp_ixT (dp_var rfl) dp_int) (cmul hb.1 hd2 (by omega)))) (dap_cons (dp_mul (dp_ixT (dp_var rfl) dp_int) (dp_ixT (dp_var rfl) dp_int) (cmul hd2 (szR_den hb) (by omega))) dap_nil)) ⟨_, _, m + k, rfl, z1, mul_lt2 hd2 (szR_den hb), by omega, rfl⟩) ?_
  have e := Rat.divInt_sub_divInt n b.num (d₁ := d) (d₂ := (b.den : Int)) (by omega) (by have := den_pos' b; omega)
  rw [Rat.num_divInt_den] at e
  rw [← e]; exact hT
abbrev N_product_of : List Str := ["one", "other"]
theorem sc_product_of : FnScope N_product_of ["one", "other"] (defScope s_product_of) := ⟨rfl, rfl, rfl, by decide +kernel, rfl, by decide +kernel, by decide +kernel⟩
set_option maxHeartbeats 2000000 in
theorem ok_product_of {Pg : Program} {w : World} {K : Fg} {mg : Str → Option Value} {base : Heap} (C : Cs K mg) (D0 : DfX K mg "product_of" s_product_of ["one", "other"]) (h_reduced : OkF Pg w K mg base "reduced" 2 ["top", "low"] (spP K c_reduced)) : OkF Pg w K mg base "product_of" 3 ["one", "other"] (spP K c_product_of) := by
  refine okP D0 sc_product_of (fun ds T h => len_product_of h) fun f cdv A outer s H E hr => ⟨_, (pss_one (ps_ret (pe_cl h_reduced (hr.mono (by decide)) (pa_cons (pe_op op_mulW (pe_ix ix_tup (pv 0) pe_int (fun _ _ => rfl)) (pe_ix ix_tup (pv 1) pe_int (fun _ _ => rfl))) (pa_cons (pe_op op_mulW (pe_ix ix_tup (pv 0) pe_int (fun _ _ => rfl)) (pe_ix ix_tup (pv 1) pe_int (fun _ _ => rfl))) pa_nil))))), fun ds T h => ?_⟩
  obtain ⟨a, b, m, n, rfl, ha, hb, hmn, hT⟩ := h
  obtain ⟨z1, z2⟩ := mden ha hb
  refine ds_retp (dp_call (dap_cons (dp_mul (dp_ixT (dp_var rfl) dp_int) (dp_ixT (dp_var rfl) dp_int) (cmul ha.1 hb.1 (by omega))) (dap_cons (dp_mul (dp_ixT (dp_var rfl) dp_int) (dp_ixT (dp_var rfl) dp_int) (cmul (szR_den ha) (szR_den hb) (by omega))) dap_nil)) ⟨_, _, m + n, rfl, z1, z2, by omega, rfl⟩) ?_
  rw [mulE]; exact hT
def c_quotient : Call := fun ds T => ∃ (a b : Rat) (m n : Nat), ds = [eR a, eR b] ∧ b ≠ 0 ∧ SzR m a ∧ SzR n b ∧ m + n ≤ 8980 ∧ T (eR (a / b))
theorem len_quotient {ds T} (h : c_quotient ds T) : ds.length = 2 := by obtain ⟨_, _, _, _, rfl, _⟩ := h; rfl
abbrev N_quotient : List Str := ["one", "other"]
theorem sc_quotient : FnScope N_quotient ["one", "other"] (defScope s_quotient) := ⟨rfl, rfl, rfl, by decide +kernel, rfl, by decide +kernel, by decide +kernel⟩
set_option maxHeartbeats 2000000 in
theorem ok_quotient {Pg : Program} {w : World} {K : Fg} {mg : Str → Option Value} {base : Heap} (C : Cs K mg) (D0 : DfX K mg "quotient" s_quotient ["one", "other"]) (h_reduced : OkF Pg w K mg base "reduced" 2 ["top", "low"] (spP K c_reduced)) : OkF Pg w K mg base "quotient" 3 ["one", "other"] (spP K c_quotient) := by
  refine okP D0 sc_quotient (fun ds T h => len_quotient h) fun f cdv A outer s H E hr => ⟨_, (pss_one (ps_ret (pe_cl h_reduced (hr.mono (by decide)) (pa_cons (pe_op op_mulW (pe_ix ix_tup (pv 0) pe_int (fun _ _ => rfl)) (pe_ix ix_tup (pv 1) pe_int (fun _ _ => rfl))) (pa_cons (pe_op op_mulW (pe_ix ix_tup (pv 0) pe_int (fun _ _ => rfl)) (pe_ix ix_tup (pv 1) pe_int (fun _ _ => rfl))) pa_nil))))), fun ds T h => ?_⟩
  obtain ⟨a, b, m, n, rfl, b0, ha, hb, hmn, hT⟩ := h
  have z1 : (a.den : Int) * b.num ≠ 0 := Int.mul_ne_zero (by have := den_pos' a; omega) fun z => b0 (Rat.num_eq_zero.mp z)
  refine ds_retp (dp_call (dap_cons (dp_mul (dp_ixT (dp_var rfl) dp_int) (dp_ixT (dp_var rfl) dp_int) (cmul ha.1 (szR_den hb) (by omega))) (dap_cons (dp_mul (dp_ixT (dp_var rfl) dp_int) (dp_ixT (dp_var rfl) dp_int) (cmul (szR_den ha) hb.1 (by omega))) dap_nil)) ⟨_, _, m + n, rfl, z1, mul_lt2 (szR_den ha) hb.1, by omega, rfl⟩) ?_
  rw [divE]; exact hT
def c_is_less : Call := fun ds T => ∃ (a b : Rat) (m n : Nat), ds = [eR a, eR b] ∧ SzR m a ∧ SzR n b ∧ m + n ≤ 800000 ∧ T (.bool (decide (a < b)))
theorem len_is_less {ds T} (h : c_is_less ds T) : ds.length = 2 := by obtain ⟨_, _, _, _, rfl, _⟩ := h; rfl
-- not here: is_less
end H50
namespace H50
open PySem PySem.Spec PyProof.Rows L2 DL
theorem nlog {n k : Nat} (h : n < 2 ^ k) (hk : 0 < k) : n.log2 < k := by
  by_cases z : n = 0
  · subst z; rw [Nat.log2_zero]; exact hk
  · exact (Nat.log2_lt z).mpr h
def c_floor_root : Call := fun ds T => ∃ n : Nat, ds = [.int (n : Int)] ∧ n < 2 ^ 12900 ∧ T (.int ((Float64.isqrt n : Nat) : Int))
theorem len_floor_root {ds T} (h : c_floor_root ds T) : ds.length = 1 := by obtain ⟨_, rfl, _⟩ := h; rfl
abbrev N_floor_root : List Str := ["number"]
theorem sc_floor_root : FnScope N_floor_root ["number"] (defScope s_floor_root) := ⟨rfl, rfl, rfl, by decide +kernel, rfl, by decide +kernel, by decide +kernel⟩
set_option maxHeartbeats 2000000 in
theorem ok_floor_root {Pg : Program} {w : World} {K : Fg} {mg : Str → Option Value} {base : Heap} (C : Cs K mg) (D0 : DfX K mg "floor_root" s_floor_root ["number"])  : OkF Pg w K mg base "floor_root" 1 ["number"] (spP K c_floor_root) := by
  refine okP D0 sc_floor_root (fun ds T h => len_floor_root h) fun f cdv A outer s H E hr => ⟨_, (pss_one (ps_ret (pe_callBfun cr_isqrt (by rfl) C.g_isqrt (pa_cons (pv 0) pa_nil)))), fun ds T h => ?_⟩
  obtain ⟨n, rfl, hn, hT⟩ := h
  exact ds_retp (dp_isqrt (dp_var rfl) (by omega) (by rw [Int.toNat_natCast]; have := nlog hn (by decide); omega)) hT
theorem isqrt_le (n : Nat) : Float64.isqrt n ≤ n := by
  have := (Float64.isqrt_spec n).1
  by_cases z : Float64.isqrt n = 0
  · omega
  · exact Nat.le_trans (Nat.le_mul_of_pos_left _ (by omega)) this
def c_is_square : Call := fun ds T => ∃ n : Nat, ds = [.int (n : Int)] ∧ n < 2 ^ 12900 ∧ T (.bool (decide (Float64.isqrt n * Float64.isqrt n = n)))
theorem len_is_square {ds T} (h : c_is_square ds T) : ds.length = 1 := by obtain ⟨_, rfl, _⟩ := h; rfl
theorem nat_lt2 {n k : Nat} (h : n < 2 ^ k) : ((n : Nat) : Int).natAbs < 2 ^ k := by rw [Int.natAbs_natCast]; exact h
abbrev N_is_square : List Str := ["number"]
theorem sc_is_square : FnScope N_is_square ["number"] (defScope s_is_square) := ⟨rfl, rfl, rfl, by decide +kernel, rfl, by decide +kernel, by decide +kernel⟩
set_option maxHeartbeats 2000000 in
theorem ok_is_square {Pg : Program} {w : World} {K : Fg} {mg : Str → Option Value} {base : Heap} (C : Cs K mg) (D0 : DfX K mg "is_square" s_is_square ["number"])  : OkF Pg w K mg base "is_square" 1 ["number"] (spP K c_is_square) := by
  refine okP D0 sc_is_square (fun ds T h => len_is_square h) fun f cdv A outer s H E hr => ⟨_, (pss_one (ps_ret (pe_and (pe_cmpR op_ge (pv 0) pe_int (nomark _)) (pe_one (pe_cmpR op_eq (pe_op op_mulW (pe_callBfun cr_isqrt (by rfl) C.g_isqrt (pa_cons (pv 0) pa_nil)) (pe_callBfun cr_isqrt (by rfl) C.g_isqrt (pa_cons (pv 0) pa_nil))) (pv 0) (nomark _)))))), fun ds T h => ?_⟩
  obtain ⟨n, rfl, hn, hT⟩ := h
  have hl : ((n : Nat) : Int).toNat.log2 < 13000 := by rw [Int.toNat_natCast]; have := nlog hn (by decide); omega
  have hq : ((Float64.isqrt (((n : Nat) : Int).toNat) : Nat) : Int).natAbs < 2 ^ 12900 := by
    rw [Int.toNat_natCast]; exact nat_lt2 (Nat.lt_of_le_of_lt (isqrt_le n) hn)
  refine ds_retp (dp_andV (dp_ge (dp_var rfl) dp_int) fun _ => dp_eqI (dp_mul (dp_isqrt (dp_var rfl) (by omega) hl) (dp_isqrt (dp_var rfl) (by omega) hl) (cmul hq hq (by omega))) (dp_var rfl)) ?_
  rw [decide_eq_true (show (0 : Int) ≤ (n : Int) by omega), Bool.true_and]
  have e : decide (((Float64.isqrt (((n : Nat) : Int).toNat) : Nat) : Int) * ((Float64.isqrt (((n : Nat) : Int).toNat) : Nat) : Int) = (n : Int)) = decide (Float64.isqrt n * Float64.isqrt n = n) := by
    rw [Int.toNat_natCast]
    apply decide_eq_decide.mpr
    constructor
    · intro h; exact_mod_cast h
    · intro h; exact_mod_cast h
  rw [e]; exact hT
/-! ### cores -/
def inn (p : Nat) : Nat → Nat → Nat → Nat × Nat
  | 0, r, t => (r, t)
  | k + 1, r, t => if r % (p * p) = 0 then inn p k (r / (p * p)) (t * p) else (r, t)
def nxt (p : Nat) : Nat := if p = 2 then p + 1 else p + 2
def out : Nat → Nat → Nat → Nat → Nat → Nat × Nat × Nat × Nat
  | 0, r, c, t, p => (r, c, t, p)
  | k + 1, r, c, t, p => if p ≤ 10000 ∧ p * p * p ≤ r then
      (if (inn p 3000 r t).1 % p = 0 then out k ((inn p 3000 r t).1 / p) (c * p) (inn p 3000 r t).2 (nxt p) else out k (inn p 3000 r t).1 c (inn p 3000 r t).2 (nxt p)) else (r, c, t, p)
def coreE (x : Nat × Nat × Nat × Nat) : Option (Nat × Nat) :=
  if Float64.isqrt x.1 * Float64.isqrt x.1 = x.1 then some (x.2.1, x.2.2.1 * Float64.isqrt x.1) else if x.1 < x.2.2.2 * x.2.2.2 * x.2.2.2 then some (x.2.1 * x.1, x.2.2.1) else none
def coreT (n : Nat) : Option (Nat × Nat) := coreE (out 10001 n 1 1 2)
def encC : Option (Nat × Nat) → D
  | none => .none
  | some (c, t) => .tuple [.int (c : Int), .int (t : Int)]
def c_core_told : Call := fun ds T => ∃ n : Nat, ds = [.int (n : Int)] ∧ 1 ≤ n ∧ n < 2 ^ 2100 ∧ T (encC (coreT n))
theorem len_core_told {ds T} (h : c_core_told ds T) : ds.length = 1 := by obtain ⟨_, rfl, _⟩ := h; rfl
theorem fmod_nat (a b : Nat) : ((a : Nat) : Int).fmod ((b : Nat) : Int) = ((a % b : Nat) : Int) := by
  rw [Int.fmod_eq_emod_of_nonneg _ (by omega)]; exact (Int.natCast_emod a b).symm
theorem fdiv_nat (a b : Nat) : ((a : Nat) : Int).fdiv ((b : Nat) : Int) = ((a / b : Nat) : Int) := by
  rw [Int.fdiv_eq_ediv_of_nonneg _ (by omega)]; exact (Int.natCast_ediv a b).symm
theorem pp4 {p : Nat} (h : 2 ≤ p) : 4 ≤ p * p := Nat.mul_le_mul h h
theorem le_of_mulN {a b n : Nat} (h : a * b = n) (hb : 0 < b) : a ≤ n := by rw [← h]; exact Nat.le_mul_of_pos_right _ hb
theorem pos_of_mulN {a b n : Nat} (h : a * b = n) (hn : 0 < n) : 0 < a ∧ 0 < b := by
  constructor
  · cases a with
    | zero => rw [Nat.zero_mul] at h; omega
    | succ a => omega
  · cases b with
    | zero => rw [Nat.mul_zero] at h; omega
    | succ b => omega
theorem inn_prod (p : Nat) : ∀ (k r t : Nat), (inn p k r t).1 * ((inn p k r t).2 * (inn p k r t).2) = r * (t * t)
  | 0, r, t => rfl
  | k + 1, r, t => by
    unfold inn
    split
    · rename_i h
      rw [inn_prod p k]
      have e : r / (p * p) * (p * p) = r := Nat.div_mul_cancel (Nat.dvd_of_mod_eq_zero h)
      calc r / (p * p) * (t * p * (t * p)) = (r / (p * p) * (p * p)) * (t * t) := by grind
        _ = r * (t * t) := by rw [e]
    · rfl
theorem inn_yes {p k r t : Nat} (h : r % (p * p) = 0) : inn p (k + 1) r t = inn p k (r / (p * p)) (t * p) := by
  show (if _ then _ else _) = _
  rw [if_pos h]
abbrev N_core_told : List Str := ["number", "rest", "core", "root", "part"]
theorem sc_core_told : FnScope N_core_told ["number"] (defScope s_core_told) := ⟨rfl, rfl, rfl, by decide +kernel, rfl, by decide +kernel, by decide +kernel⟩
set_option maxHeartbeats 2000000 in
theorem ok_core_told {Pg : Program} {w : World} {K : Fg} {mg : Str → Option Value} {base : Heap} (C : Cs K mg) (D0 : DfX K mg "core_told" s_core_told ["number"]) (h_is_square : OkF Pg w K mg base "is_square" 1 ["number"] (spP K c_is_square)) : OkF Pg w K mg base "core_told" 2 ["number"] (spP K c_core_told) := by
  obtain ⟨v_MOST_PRIME, u_MOST_PRIME, m_MOST_PRIME, r_MOST_PRIME, d_MOST_PRIME⟩ := C.d_MOST_PRIME
  refine okP D0 sc_core_told (fun ds T h => len_core_told h) fun f cdv A outer s H E hr => ⟨_, (pss_cons (ps_asg (pe_tup (pa_cons (pv 0) (pa_cons pe_int (pa_cons pe_int (pa_cons pe_int pa_nil))))) (pg_tup rfl (pgs_cons (pg_name (i := 1) sc_core_told.nd rfl (.inl rfl)) (pgs_cons (pg_name (i := 2) sc_core_told.nd rfl (.inl rfl)) (pgs_cons (pg_name (i := 3) sc_core_told.nd rfl (.inl rfl)) (pgs_cons (pg_name (i := 4) sc_core_told.nd rfl (.inl rfl)) pgs_nil))))))
      (pss_cons (ps_while PassesOwn.never (PW.pt (pw_and (pt_cmpR op_le (pv 4) (pe_glob (by rfl) m_MOST_PRIME r_MOST_PRIME) (nomark _)) (pw_and1 (pt_cmpR op_le (pe_op op_mulW (pe_op op_mulW (pv 4) (pv 4)) (pv 4)) (pv 1) (nomark _)))))
        (pss_cons (ps_while PassesOwn.never (pt_cmpR op_eq (pe_op op_modN (pv 1) (pe_op op_mulW (pv 4) (pv 4))) pe_int (nomark _))
          (pss_one (ps_par (i := 1) (j := 3) rfl sc_core_told.nd rfl rfl (by decide) rfl rfl (pa_cons (pe_op op_fdivX (pv 1) (pe_op op_mulW (pv 4) (pv 4))) (pa_cons (pe_op op_mulW (pv 3) (pv 4)) pa_nil)) (by rfl))))
        (pss_cons (ps_if (pt_cmpR op_eq (pe_op op_modN (pv 1) (pv 4)) pe_int (nomark _))
          (pss_one (ps_par (i := 1) (j := 2) rfl sc_core_told.nd rfl rfl (by decide) rfl rfl (pa_cons (pe_op op_fdivX (pv 1) (pv 4)) (pa_cons (pe_op op_mulW (pv 2) (pv 4)) pa_nil)) (by rfl)))
          pss_nil)
        (pss_one (ps_set (i := 4) sc_core_told.nd rfl (.inl rfl) (pe_ifExp (pt_cmpR op_eq (pv 4) pe_int (nomark _)) (pe_op op_add (pv 4) pe_int) (pe_op op_add (pv 4) pe_int)))))))
      (pss_cons (ps_if (pt_val (pe_cl h_is_square (hr.mono (by decide)) (pa_cons (pv 1) pa_nil)))
        (pss_one (ps_ret (pe_tup (pa_cons (pv 2) (pa_cons (pe_op op_mulW (pv 3) (pe_callBfun cr_isqrt (by rfl) C.g_isqrt (pa_cons (pv 1) pa_nil))) pa_nil)))))
        pss_nil)
      (pss_one (ps_ret (pe_ifExp (pt_cmpR op_gt (pe_op op_mulW (pe_op op_mulW (pv 4) (pv 4)) (pv 4)) (pv 1) (nomark _)) (pe_tup (pa_cons (pe_op op_mulW (pv 2) (pv 1)) (pa_cons (pv 3) pa_nil))) pe_non)))))), fun ds T h => ?_⟩
  obtain ⟨n, rfl, h1, hn, hT⟩ := h
  have small : ∀ {a b : Nat}, a * b = n → a < 2 ^ 2100 := fun {a b} e => Nat.lt_of_le_of_lt (le_of_mulN e (pos_of_mulN e h1).2) hn
  refine ds_letG (dp_tup (dap_cons (dp_var rfl) (dap_cons dp_int (dap_cons dp_int (dap_cons dp_int dap_nil))))) (dg_tup (dgs_cons (dg_name (dgs_cons (dg_name (dgs_cons (dg_name (dgs_cons (dg_name (dgs_nil ?_))))))))) rfl)
  refine ds_seq (ds_while (S := Nat × Nat × Nat × Nat × Nat) (fun s => [.va (.int (n : Int)), .va (.int (s.2.1 : Int)), .va (.int (s.2.2.1 : Int)), .va (.int (s.2.2.2.1 : Int)), .va (.int (s.2.2.2.2 : Int))])
    (fun s => out s.1 s.2.1 s.2.2.1 s.2.2.2.1 s.2.2.2.2 = out 10001 n 1 1 2 ∧ s.2.1 * (s.2.2.1 * (s.2.2.2.1 * s.2.2.2.1)) = n ∧ 2 ≤ s.2.2.2.2 ∧ 10002 ≤ s.1 + s.2.2.2.2 ∧ s.2.2.2.2 ≤ 10002) (fun s => s.1) (10001, n, 1, 1, 2) rfl ⟨rfl, by simp, Nat.le_refl 2, by show 10002 ≤ 10003; decide, by show 2 ≤ 10002; decide⟩ ?_)
  rintro ⟨k, r, c, t, p⟩ ⟨ho, hp, hp2, hk, hp3⟩
  simp only at ho hp hp2 hk hp3 ⊢
  obtain ⟨r0, ct0⟩ := pos_of_mulN hp h1
  obtain ⟨c0, tt0⟩ := pos_of_mulN (rfl : c * (t * t) = _) ct0
  have rs : r < 2 ^ 2100 := small hp
  have pS : ((p : Nat) : Int).natAbs < 2 ^ 14 := nat_lt2 (by omega)
  have ppS : (((p : Nat) : Int) * ((p : Nat) : Int)).natAbs < 2 ^ 28 := mul_lt2 pS pS
  have cs : c < 2 ^ 2100 := small (a := c) (b := r * (t * t)) (by rw [← hp]; grind)
  have ts : t < 2 ^ 2100 := small (a := t) (b := r * c * t) (by rw [← hp]; grind)
  refine DT.of (b := decide (p ≤ 10000 ∧ p * p * p ≤ r)) (DTP.is (dtp_and (dtp_test (dp_le (dp_var rfl) (dp_c d_MOST_PRIME))) fun _ => dtp_test (dp_le (dp_mul (dp_mul (dp_var rfl) (dp_var rfl) (cmul pS pS (by decide))) (dp_var rfl) (cmul ppS pS (by decide))) (dp_var rfl))) ?_) ?_
  · have e1 : decide (((p : Nat) : Int) ≤ 10000) = decide (p ≤ 10000) := decide_eq_decide.mpr (by omega)
    have e2 : decide (((p : Nat) : Int) * ((p : Nat) : Int) * ((p : Nat) : Int) ≤ ((r : Nat) : Int)) = decide (p * p * p ≤ r) := decide_eq_decide.mpr (by
      constructor
      · intro h; exact_mod_cast h
      · intro h; exact_mod_cast h)
    rw [e1, e2, Bool.decide_and]
  by_cases hc : p ≤ 10000 ∧ p * p * p ≤ r
  · rw [if_pos (decide_eq_true hc)]
    obtain ⟨k, rfl⟩ : ∃ k', k = k' + 1 := ⟨k - 1, by omega⟩
    refine ds_seq (ds_while (S := Nat × Nat × Nat) (fun s => [.va (.int (n : Int)), .va (.int (s.2.1 : Int)), .va (.int (c : Int)), .va (.int (s.2.2 : Int)), .va (.int (p : Int))])
      (fun s => inn p s.1 s.2.1 s.2.2 = inn p 3000 r t ∧ s.2.1 * (s.2.2 * s.2.2) = r * (t * t) ∧ s.2.1 < 2 ^ s.1) (fun s => s.1) (3000, r, t) rfl ⟨rfl, rfl, Nat.lt_of_lt_of_le rs (Nat.pow_le_pow_right (by decide) (show 2100 ≤ 3000 by decide))⟩ ?_)
    rintro ⟨j, a, b⟩ ⟨hi, hab, ha⟩
    simp only at hi hab ha ⊢
    have ppe : (((p : Nat) : Int) * ((p : Nat) : Int)) = ((p * p : Nat) : Int) := (Int.natCast_mul p p).symm
    have pp0 := pp4 hp2
    have hab2 : a * (b * b * c) = n := by rw [← hp]; calc a * (b * b * c) = (a * (b * b)) * c := by grind
      _ = r * (t * t) * c := by rw [hab]
      _ = _ := by grind
    have a0 := (pos_of_mulN hab2 h1).1
    have as : a < 2 ^ 2100 := small hab2
    have bs : b < 2 ^ 2100 := small (a := b) (b := a * b * c) (by rw [← hab2]; grind)
    refine DT.of (b := decide (a % (p * p) = 0)) (DTP.is (dtp_test (dp_eqI (dp_mod (dp_var rfl) (dp_mul (dp_var rfl) (dp_var rfl) (cmul pS pS (by decide))) (by omega)) dp_int)) ?_) ?_
    · rw [ppe, fmod_nat]; exact decide_eq_decide.mpr (by omega)
    by_cases hd : a % (p * p) = 0
    · rw [if_pos (decide_eq_true hd)]
      obtain ⟨j, rfl⟩ : ∃ j', j = j' + 1 := ⟨j - 1, by
        cases j with
        | zero => rw [Nat.pow_zero] at ha; omega
        | succ j => rfl⟩
      refine ds_par (DA.of (dap_cons (dp_div (dp_var rfl) (dp_mul (dp_var rfl) (dp_var rfl) (cmul pS pS (by decide))) (cdiv (by omega) ppS (by decide))) (dap_cons (dp_mul (dp_var rfl) (dp_var rfl) (cmul (nat_lt2 bs) pS (by decide))) dap_nil)) ⟨_, _, rfl, ?_⟩)
      refine ⟨(j, a / (p * p), b * p), ?_, ⟨?_, ?_, ?_⟩, Nat.lt_succ_self j⟩
      · rw [ppe, fdiv_nat, ← Int.natCast_mul]; rfl
      · exact (inn_yes hd).symm.trans hi
      · show a / (p * p) * (b * p * (b * p)) = _
        have e : a / (p * p) * (p * p) = a := Nat.div_mul_cancel (Nat.dvd_of_mod_eq_zero hd)
        rw [← hab]
        calc a / (p * p) * (b * p * (b * p)) = (a / (p * p) * (p * p)) * (b * b) := by grind
          _ = _ := by rw [e]
      · show a / (p * p) < 2 ^ j
        refine Nat.div_lt_of_lt_mul ?_
        rw [Nat.pow_succ] at ha
        have : 2 * 2 ^ j ≤ p * p * 2 ^ j := Nat.mul_le_mul_right _ (by omega)
        omega
    · rw [if_neg (by rw [decide_eq_false hd]; decide)]
      have hR : inn p 3000 r t = (a, b) := by
        rw [← hi]
        cases j with
        | zero => rfl
        | succ j => unfold inn; rw [if_neg hd]
      have hnext : DTP K (tTest (tOp rEq (tVar 4) (tC (.int 2)))) [.va (.int (n : Int)), .va (.int (a : Int)), .va (.int (c : Int)), .va (.int (b : Int)), .va (.int (p : Int))] (decide (p = 2)) := DTP.is (dtp_test (dp_eqI (dp_var rfl) dp_int)) (decide_eq_decide.mpr (by omega))
      have ho2 : out (k + 1) r c t p = if a % p = 0 then out k (a / p) (c * p) b (nxt p) else out k a c b (nxt p) := by
        show (if p ≤ 10000 ∧ p * p * p ≤ r then _ else _) = _
        rw [if_pos hc, hR]
      have np2 : 2 ≤ nxt p ∧ 10002 ≤ k + nxt p ∧ nxt p ≤ 10002 := by unfold nxt; split <;> omega
      refine ds_seq (ds_ifp (b := decide (a % p = 0)) (DTP.is (dtp_test (dp_eqI (dp_mod (dp_var rfl) (dp_var rfl) (by omega)) dp_int)) (by rw [fmod_nat]; exact decide_eq_decide.mpr (by omega))) (fun z => ?_) fun z => ?_)
      · have z := of_decide_eq_true z
        rw [if_pos z] at ho2
        refine ds_par (DA.of (dap_cons (dp_div (dp_var rfl) (dp_var rfl) (cdiv (by omega) pS (by decide))) (dap_cons (dp_mul (dp_var rfl) (dp_var rfl) (cmul (nat_lt2 cs) pS (by decide))) dap_nil)) ⟨_, _, rfl, ?_⟩)
        refine ds_asg (DE.of (dp_ite (p := p = 2) (DTP.is (dtp_test (dp_eqI (dp_var rfl) dp_int)) (decide_eq_decide.mpr (by omega))) (fun _ => dp_add (dp_var rfl) dp_int) (fun _ => dp_add (dp_var rfl) dp_int)) (dg_name ?_))
        refine ⟨(k, a / p, c * p, b, nxt p), ?_, ⟨ho2.symm.trans ho, ?_, np2⟩, Nat.lt_succ_self k⟩
        · rw [fdiv_nat, ← Int.natCast_mul]
          unfold nxt
          by_cases q : p = 2
          · rw [if_pos q, if_pos q]; rfl
          · rw [if_neg q, if_neg q]; rfl
        · show a / p * (c * p * (b * b)) = n
          have e : a / p * p = a := Nat.div_mul_cancel (Nat.dvd_of_mod_eq_zero z)
          rw [← hab2]
          calc a / p * (c * p * (b * b)) = (a / p * p) * (b * b * c) := by grind
            _ = _ := by rw [e]
      · have z := of_decide_eq_false z
        rw [if_neg z] at ho2
        refine ds_next ?_
        refine ds_asg (DE.of (dp_ite (p := p = 2) (DTP.is (dtp_test (dp_eqI (dp_var rfl) dp_int)) (decide_eq_decide.mpr (by omega))) (fun _ => dp_add (dp_var rfl) dp_int) (fun _ => dp_add (dp_var rfl) dp_int)) (dg_name ?_))
        refine ⟨(k, a, c, b, nxt p), ?_, ⟨ho2.symm.trans ho, ?_, np2⟩, Nat.lt_succ_self k⟩
        · unfold nxt
          by_cases q : p = 2
          · rw [if_pos q, if_pos q]; rfl
          · rw [if_neg q, if_neg q]; rfl
        · show a * (c * (b * b)) = n
          rw [← hab2]; grind
  · rw [if_neg (by rw [decide_eq_false hc]; decide)]
    have hR : out 10001 n 1 1 2 = (r, c, t, p) := by
      rw [← ho]
      cases k with
      | zero => rfl
      | succ k => unfold out; rw [if_neg hc]
    have hl : ((r : Nat) : Int).toNat.log2 < 13000 := by rw [Int.toNat_natCast]; have := nlog rs (by decide); omega
    have hq : ((Float64.isqrt (((r : Nat) : Int).toNat) : Nat) : Int).natAbs < 2 ^ 2100 := by
      rw [Int.toNat_natCast]; exact nat_lt2 (Nat.lt_of_le_of_lt (isqrt_le r) rs)
    unfold coreT at hT
    rw [hR] at hT
    refine ds_when (b := decide (Float64.isqrt r * Float64.isqrt r = r)) (dtp_B (dp_call (dap_cons (dp_var rfl) dap_nil) ⟨r, rfl, Nat.lt_of_lt_of_le rs (Nat.pow_le_pow_right (by decide) (by decide)), rfl⟩)) (fun z => ?_) fun z => ?_
    · have z := of_decide_eq_true z
      unfold coreE at hT
      rw [if_pos z] at hT
      refine ds_retp (dp_tup (dap_cons (dp_var rfl) (dap_cons (dp_mul (dp_var rfl) (dp_isqrt (dp_var rfl) (by omega) hl) (cmul (nat_lt2 ts) hq (by decide))) dap_nil))) ?_
      rw [Int.toNat_natCast, ← Int.natCast_mul]
      exact hT
    · have z := of_decide_eq_false z
      unfold coreE at hT
      rw [if_neg z] at hT
      refine ds_ret (DE.of (dp_ite (p := r < p * p * p) (DTP.is (dtp_test (dp_gt (dp_mul (dp_mul (dp_var rfl) (dp_var rfl) (cmul pS pS (by decide))) (dp_var rfl) (cmul ppS pS (by decide))) (dp_var rfl))) ?_) (fun _ => dp_tup (dap_cons (dp_mul (dp_var rfl) (dp_var rfl) (cmul (nat_lt2 cs) (nat_lt2 rs) (by decide))) (dap_cons (dp_var rfl) dap_nil))) (fun _ => dp_non)) ?_)
      · exact decide_eq_decide.mpr (by
          constructor
          · intro h; exact_mod_cast h
          · intro h; exact_mod_cast h)
      · by_cases q : r < p * p * p
        · rw [if_pos q] at hT ⊢
          rw [← Int.natCast_mul]
          exact hT
        · rw [if_neg q] at hT ⊢
          exact hT
def isField (n : Nat) : Bool := match coreT n with
  | none => false
  | some (_, t) => decide (t = 1)
def c_is_field : Call := fun ds T => ∃ n : Nat, ds = [.int (n : Int)] ∧ 1 ≤ n ∧ n < 10 ^ 300 ∧ T (.bool (isField n))
theorem len_is_field {ds T} (h : c_is_field ds T) : ds.length = 1 := by obtain ⟨_, rfl, _⟩ := h; rfl
theorem p300 : (10 : Nat) ^ 300 < 2 ^ 1000 := by decide +kernel
abbrev N_is_field : List Str := ["value", "told"]
theorem sc_is_field : FnScope N_is_field ["value"] (defScope s_is_field) := ⟨rfl, rfl, rfl, by decide +kernel, rfl, by decide +kernel, by decide +kernel⟩
set_option maxHeartbeats 2000000 in
theorem ok_is_field {Pg : Program} {w : World} {K : Fg} {mg : Str → Option Value} {base : Heap} (C : Cs K mg) (D0 : DfX K mg "is_field" s_is_field ["value"]) (h_is_between : OkF Pg w K mg base "is_between" 2 ["value", "low", "high"] (spP K c_is_between)) (h_core_told : OkF Pg w K mg base "core_told" 2 ["number"] (spP K c_core_told)) : OkF Pg w K mg base "is_field" 3 ["value"] (spP K c_is_field) := by
  obtain ⟨v_BEYOND, u_BEYOND, m_BEYOND, r_BEYOND, d_BEYOND⟩ := C.d_BEYOND
  refine okP D0 sc_is_field (fun ds T h => len_is_field h) fun f cdv A outer s H E hr => ⟨_, (pss_cons (ps_if (pt_not (pt_val (pe_cl h_is_between (hr.mono (by decide)) (pa_cons (pv 0) (pa_cons pe_int (pa_cons (pe_op op_sub (pe_glob (by rfl) m_BEYOND r_BEYOND) pe_int) pa_nil))))))
        (pss_one (ps_ret pe_bl))
        pss_nil)
      (pss_cons (ps_set (i := 1) sc_is_field.nd rfl (.inl rfl) (pe_cl h_core_told (hr.mono (by decide)) (pa_cons (pv 0) pa_nil)))
      (pss_one (ps_ret (pe_and (pe_cmpR op_notN (pv 1) pe_non (nomark _)) (pe_one (pe_cmpR op_eq (pe_ix ix_tup (pv 1) pe_int (fun _ _ => rfl)) pe_int (nomark _)))))))), fun ds T h => ?_⟩
  obtain ⟨n, rfl, h1, hn, hT⟩ := h
  have b1 : decide ((1 : Int) ≤ (n : Int)) = true := decide_eq_true (by omega)
  have hn' : (n : Int) < 10 ^ 300 := by exact_mod_cast hn
  have b2 : decide ((n : Int) ≤ 10 ^ 300 - 1) = true := decide_eq_true (by omega)
  refine ds_when (b := false) (DTP.is (dtp_not (dtp_B (dp_call (dap_cons (dp_var rfl) (dap_cons dp_int (dap_cons (dp_sub (dp_c d_BEYOND) dp_int) dap_nil))) ⟨_, _, _, rfl, rfl⟩))) (by rw [b1, b2]; rfl)) (fun z => nomatch z) fun _ => ?_
  refine ds_let (dp_call (dap_cons (dp_var rfl) dap_nil) ⟨n, rfl, h1, Nat.lt_of_lt_of_le (Nat.lt_trans hn p300) (Nat.pow_le_pow_right (by decide) (by decide)), rfl⟩) ?_
  unfold isField at hT
  cases q : coreT n with
  | none =>
    rw [q] at hT
    refine ds_retp (dp_andV (b := true) (dp_notN (dp_var rfl)) fun z => nomatch z) hT
  | some x =>
    obtain ⟨c, t⟩ := x
    rw [q] at hT
    refine ds_retp (dp_andV (dp_notN (dp_var rfl)) fun _ => dp_eqI (dp_ixT (ds := [.int (c : Int), .int (t : Int)]) (dp_var rfl) dp_int) dp_int) ?_
    have e : decide ((t : Int) = 1) = decide (t = 1) := decide_eq_decide.mpr (by omega)
    rw [e]; exact hT
def c_check_field : Call := fun ds T => ∃ n : Nat, ds = [.int (n : Int)] ∧ 1 ≤ n ∧ n < 10 ^ 300 ∧ isField n = true ∧ T .none
theorem len_check_field {ds T} (h : c_check_field ds T) : ds.length = 1 := by obtain ⟨_, rfl, _⟩ := h; rfl
abbrev N_check_field : List Str := ["field"]
theorem sc_check_field : FnScope N_check_field ["field"] (defScope s_check_field) := ⟨rfl, rfl, rfl, by decide +kernel, rfl, by decide +kernel, by decide +kernel⟩
set_option maxHeartbeats 2000000 in
theorem ok_check_field {Pg : Program} {w : World} {K : Fg} {mg : Str → Option Value} {base : Heap} (C : Cs K mg) (D0 : DfX K mg "check_field" s_check_field ["field"]) (h_is_field : OkF Pg w K mg base "is_field" 3 ["value"] (spP K c_is_field)) : OkF Pg w K mg base "check_field" 4 ["field"] (spP K c_check_field) := by
  refine okP D0 sc_check_field (fun ds T h => len_check_field h) fun f cdv A outer s H E hr => ⟨_, (pss_one (ps_if (pt_not (pt_val (pe_cl h_is_field (hr.mono (by decide)) (pa_cons (pv 0) pa_nil))))
        (pss_one ps_never)
        pss_nil)), fun ds T h => ?_⟩
  obtain ⟨n, rfl, h1, hn, hf, hT⟩ := h
  exact ds_ifp (b := false) (DTP.is (dtp_not (dtp_B (dp_call (dap_cons (dp_var rfl) dap_nil) ⟨n, rfl, h1, hn, rfl⟩))) (by rw [hf]; rfl)) (fun z => nomatch z) fun _ => ds_next hT
theorem field_ok : ∀ n ∈ [1, 2, 3, 5, 6, 7, 10, 11, 13, 14, 15, 17, 19, 21, 22, 23, 26, 31, 61, 101], isField n = true := by decide +kernel

end H50
namespace H50
open PySem PySem.Spec PyProof.Rows L2 DL
def Told (q : Rat) : Prop := q.num.natAbs < 10 ^ 300 ∧ q.den < 10 ^ 300
theorem told_sz {q : Rat} (h : Told q) : SzR 1000 q := ⟨Nat.lt_trans h.1 p300, Nat.lt_trans h.2 p300⟩
theorem sz_told {q : Rat} {m : Nat} (h : SzR m q) (hm : m ≤ 990) : Told q := by
  have : (2 : Nat) ^ 990 < 10 ^ 300 := by decide +kernel
  have l : (2 : Nat) ^ m ≤ 2 ^ 990 := Nat.pow_le_pow_right (by decide) hm
  exact ⟨by have := h.1; omega, by have := h.2; omega⟩
theorem told_b {q : Rat} (h : Told q) : (decide ((q.num.natAbs : Int) < 10 ^ 300) && decide ((q.den : Int) < 10 ^ 300)) = true := by
  rw [Bool.and_eq_true]
  exact ⟨decide_eq_true (by exact_mod_cast h.1), decide_eq_true (by exact_mod_cast h.2)⟩
/-- a surd of the field f -/
structure Sd (f : Nat) (a b : Rat) : Prop where
  ta : Told a
  tb : Told b
  f1 : 1 ≤ f
  fb : 1 < f ∨ b = 0
def c_is_surd : Call := fun ds T => ∃ (f : Nat) (a b : Rat), ds = [.int (f : Int), eQ a b] ∧ Sd f a b ∧ T (.bool true)
theorem len_is_surd {ds T} (h : c_is_surd ds T) : ds.length = 2 := by obtain ⟨_, _, _, rfl, _⟩ := h; rfl
theorem eR0 : dat_NOTHING = eR 0 := rfl
abbrev N_is_surd : List Str := ["field", "value", "one"]
theorem sc_is_surd : FnScope N_is_surd ["field", "value"] (defScope s_is_surd) := ⟨rfl, rfl, rfl, by decide +kernel, rfl, by decide +kernel, by decide +kernel⟩
set_option maxHeartbeats 2000000 in
theorem ok_is_surd {Pg : Program} {w : World} {K : Fg} {mg : Str → Option Value} {base : Heap} (C : Cs K mg) (D0 : DfX K mg "is_surd" s_is_surd ["field", "value"]) (h_is_told_fraction : OkF Pg w K mg base "is_told_fraction" 3 ["value"] (spP K c_is_told_fraction)) : OkF Pg w K mg base "is_surd" 4 ["field", "value"] (spP K c_is_surd) := by
  obtain ⟨v_NOTHING, u_NOTHING, m_NOTHING, r_NOTHING, d_NOTHING⟩ := C.d_NOTHING
  refine okP D0 sc_is_surd (fun ds T h => len_is_surd h) fun f cdv A outer s H E hr => ⟨_, (pss_cons (ps_if (PW.pt (pw_or (pt_not (pt_val (pe_callB call_isi (by rfl) C.f_isinstance (by decide +kernel) (pa_cons (pv 1) (pa_cons (pe_bltn (v := .ty "tuple") (by rfl) C.f_tuple (by decide +kernel) rfl) pa_nil))))) (pw_or (pt_cmpR op_ne (pe_callB call_len_seq (by rfl) C.f_len (by decide +kernel) (pa_cons (pv 1) pa_nil)) pe_int (nomark _)) (pw_or1 (pt_not (pt_val (pe_callB (cr_all rfl) (by rfl) C.f_all (by decide +kernel) (pa_cons (pe_lc (own := [("one", 2)]) (g := gName 2) rfl sc_is_surd.nd (pi_tup (pv 1)) (blkOk_by (N := N_is_surd) (sc := defScope s_is_surd) (by decide +kernel)) (fun _ _ _ _ _ => (pg_name (i := 2) sc_is_surd.nd rfl (.inl rfl))) (fun _ _ _ _ _ => pts_nil) (fun _ _ _ _ _ => (pe_cl h_is_told_fraction (hr.mono (by decide)) (pa_cons (pv 2) pa_nil)))) pa_nil))))))))
        (pss_one (ps_ret pe_bl))
        pss_nil)
      (pss_one (ps_ret (pe_or (pe_cmpR op_gt (pv 0) pe_int (nomark _)) (pe_one (pe_cmpR (op_eqD hr.units) (pe_ix ix_tup (pv 1) pe_int (fun _ _ => rfl)) (pe_glob (by rfl) m_NOTHING r_NOTHING) (nomark _))))))), fun ds T h => ?_⟩
  obtain ⟨f, a, b, rfl, hs, hT⟩ := h
  refine ds_when (b := false) (DTP.is (dtp_or (dtp_not (dtp_B (dp_isi (dp_var rfl) kit_tt))) fun _ => dtp_or (dtp_test (dp_neI (dp_lenT (dp_var rfl)) dp_int)) fun _ => dtp_not (dtp_B (dp_all (bs := [true, true]) (dp_lcT (ds := [eR a, eR b]) (fun d => .bool true) (by simp) (dp_var rfl) (by show 2 < sizeLine; decide) (fun d hd => ?_))))) rfl) (fun z => nomatch z) fun _ => ?_
  · have : ∃ q, d = eR q ∧ Told q := by
      rcases List.mem_cons.mp hd with z | z
      · exact ⟨_, z, hs.ta⟩
      · rcases List.mem_cons.mp z with z | z
        · exact ⟨_, z, hs.tb⟩
        · cases z
    obtain ⟨q, rfl, hq⟩ := this
    exact DP.is (dp_call (dap_cons (dp_var rfl) dap_nil) ⟨q, rfl, rfl⟩) (by rw [told_b hq])
  · refine ds_retp (dp_orV (dp_gt (dp_var rfl) dp_int) fun _ => dp_eqD (dp_ixT (ds := [eR a, eR b]) (dp_var rfl) dp_int) (dp_c d_NOTHING) sh_eR rfl) ?_
    rw [eR0, eqv_eR]
    have e : (decide ((1 : Int) < (f : Int)) || decide (b = 0)) = true := by
      rw [Bool.or_eq_true]
      rcases hs.fb with z | z
      · exact .inl (decide_eq_true (by omega))
      · exact .inr (decide_eq_true z)
    rw [e]; exact hT
def c_check_surd : Call := fun ds T => ∃ (f : Nat) (a b : Rat), ds = [.int (f : Int), eQ a b] ∧ Sd f a b ∧ T .none
theorem len_check_surd {ds T} (h : c_check_surd ds T) : ds.length = 2 := by obtain ⟨_, _, _, rfl, _⟩ := h; rfl
abbrev N_check_surd : List Str := ["field", "value"]
theorem sc_check_surd : FnScope N_check_surd ["field", "value"] (defScope s_check_surd) := ⟨rfl, rfl, rfl, by decide +kernel, rfl, by decide +kernel, by decide +kernel⟩
set_option maxHeartbeats 2000000 in
theorem ok_check_surd {Pg : Program} {w : World} {K : Fg} {mg : Str → Option Value} {base : Heap} (C : Cs K mg) (D0 : DfX K mg "check_surd" s_check_surd ["field", "value"]) (h_is_surd : OkF Pg w K mg base "is_surd" 4 ["field", "value"] (spP K c_is_surd)) : OkF Pg w K mg base "check_surd" 5 ["field", "value"] (spP K c_check_surd) := by
  refine okP D0 sc_check_surd (fun ds T h => len_check_surd h) fun f cdv A outer s H E hr => ⟨_, (pss_one (ps_if (pt_not (pt_val (pe_cl h_is_surd (hr.mono (by decide)) (pa_cons (pv 0) (pa_cons (pv 1) pa_nil)))))
        (pss_one ps_never)
        pss_nil)), fun ds T h => ?_⟩
  obtain ⟨f, a, b, rfl, hs, hT⟩ := h
  exact ds_ifp (b := false) (DTP.is (dtp_not (dtp_B (dp_call (dap_cons (dp_var rfl) (dap_cons (dp_var rfl) dap_nil)) ⟨f, a, b, rfl, hs, rfl⟩))) rfl) (fun z => nomatch z) fun _ => ds_next hT
def c_surd_of : Call := fun ds T => ∃ x, ds = [x] ∧ T (.tuple [x, eR 0])
theorem len_surd_of {ds T} (h : c_surd_of ds T) : ds.length = 1 := by obtain ⟨_, rfl, _⟩ := h; rfl
abbrev N_surd_of : List Str := ["fraction"]
theorem sc_surd_of : FnScope N_surd_of ["fraction"] (defScope s_surd_of) := ⟨rfl, rfl, rfl, by decide +kernel, rfl, by decide +kernel, by decide +kernel⟩
set_option maxHeartbeats 2000000 in
theorem ok_surd_of {Pg : Program} {w : World} {K : Fg} {mg : Str → Option Value} {base : Heap} (C : Cs K mg) (D0 : DfX K mg "surd_of" s_surd_of ["fraction"])  : OkF Pg w K mg base "surd_of" 1 ["fraction"] (spP K c_surd_of) := by
  obtain ⟨v_NOTHING, u_NOTHING, m_NOTHING, r_NOTHING, d_NOTHING⟩ := C.d_NOTHING
  refine okP D0 sc_surd_of (fun ds T h => len_surd_of h) fun f cdv A outer s H E hr => ⟨_, (pss_one (ps_ret (pe_tup (pa_cons (pv 0) (pa_cons (pe_glob (by rfl) m_NOTHING r_NOTHING) pa_nil))))), fun ds T h => ?_⟩
  obtain ⟨q, rfl, hT⟩ := h
  exact ds_retp (dp_tup (dap_cons (dp_var rfl) (dap_cons (dp_c d_NOTHING) dap_nil))) hT
def c_is_nothing : Call := fun ds T => ∃ a b : Rat, ds = [eQ a b] ∧ T (.bool (decide (a = 0 ∧ b = 0)))
theorem len_is_nothing {ds T} (h : c_is_nothing ds T) : ds.length = 1 := by obtain ⟨_, _, rfl, _⟩ := h; rfl
abbrev N_is_nothing : List Str := ["one"]
theorem sc_is_nothing : FnScope N_is_nothing ["one"] (defScope s_is_nothing) := ⟨rfl, rfl, rfl, by decide +kernel, rfl, by decide +kernel, by decide +kernel⟩
set_option maxHeartbeats 2000000 in
theorem ok_is_nothing {Pg : Program} {w : World} {K : Fg} {mg : Str → Option Value} {base : Heap} (C : Cs K mg) (D0 : DfX K mg "is_nothing" s_is_nothing ["one"])  : OkF Pg w K mg base "is_nothing" 1 ["one"] (spP K c_is_nothing) := by
  refine okP D0 sc_is_nothing (fun ds T h => len_is_nothing h) fun f cdv A outer s H E hr => ⟨_, (pss_one (ps_ret (pe_and (pe_cmpR op_eq (pe_ix ix_tup (pe_ix ix_tup (pv 0) pe_int (fun _ _ => rfl)) pe_int (fun _ _ => rfl)) pe_int (nomark _)) (pe_one (pe_cmpR op_eq (pe_ix ix_tup (pe_ix ix_tup (pv 0) pe_int (fun _ _ => rfl)) pe_int (fun _ _ => rfl)) pe_int (nomark _)))))), fun ds T h => ?_⟩
  obtain ⟨a, b, rfl, hT⟩ := h
  refine ds_retp (dp_andV (dp_eqI (dp_ixT (ds := [.int a.num, .int (a.den : Int)]) (dp_ixT (ds := [eR a, eR b]) (dp_var rfl) dp_int) dp_int) dp_int) fun _ => dp_eqI (dp_ixT (ds := [.int b.num, .int (b.den : Int)]) (dp_ixT (ds := [eR a, eR b]) (dp_var rfl) dp_int) dp_int) dp_int) ?_
  rw [decide_eq_decide.mpr (Rat.num_eq_zero (q := a)), decide_eq_decide.mpr (Rat.num_eq_zero (q := b)), ← Bool.decide_and]
  exact hT
def c_bin2 (g : Rat → Rat → Rat) : Call := fun ds T => ∃ (a b c d : Rat) (m n : Nat), ds = [eQ a b, eQ c d] ∧ SzR m a ∧ SzR m b ∧ SzR n c ∧ SzR n d ∧ m + n ≤ 8980 ∧ T (eQ (g a c) (g b d))
abbrev c_surd_plus : Call := c_bin2 fun a b => a + b
def c_surd_less : Call := fun ds T => ∃ (p q : Int) (b c d : Rat) (m n : Nat), ds = [.tuple [eP p q, eR b], eQ c d] ∧ 0 < q ∧ p.natAbs < 2 ^ m ∧ q.natAbs < 2 ^ m ∧ SzR m b ∧ SzR n c ∧ SzR n d ∧ m + n ≤ 8980 ∧ T (eQ (Rat.divInt p q - c) (b - d))
theorem less_of {a b c d : Rat} {m n : Nat} {T : D → Prop} (ha : SzR m a) (hb : SzR m b) (hc : SzR n c) (hd : SzR n d) (h : m + n ≤ 8980) (hT : T (eQ (a - c) (b - d))) : c_surd_less [eQ a b, eQ c d] T := ⟨a.num, a.den, b, c, d, m, n, rfl, den_pos' a, ha.1, szR_den ha, hb, hc, hd, h, by rw [Rat.num_divInt_den]; exact hT⟩
theorem len_bin2 {g ds T} (h : c_bin2 g ds T) : ds.length = 2 := by obtain ⟨_, _, _, _, _, _, rfl, _⟩ := h; rfl
theorem len_surd_plus {ds T} (h : c_surd_plus ds T) : ds.length = 2 := len_bin2 h
theorem len_surd_less {ds T} (h : c_surd_less ds T) : ds.length = 2 := by obtain ⟨_, _, _, _, _, _, _, rfl, _⟩ := h; rfl
abbrev N_surd_plus : List Str := ["one", "other"]
theorem sc_surd_plus : FnScope N_surd_plus ["one", "other"] (defScope s_surd_plus) := ⟨rfl, rfl, rfl, by decide +kernel, rfl, by decide +kernel, by decide +kernel⟩
set_option maxHeartbeats 2000000 in
theorem ok_surd_plus {Pg : Program} {w : World} {K : Fg} {mg : Str → Option Value} {base : Heap} (C : Cs K mg) (D0 : DfX K mg "surd_plus" s_surd_plus ["one", "other"]) (h_added : OkF Pg w K mg base "added" 3 ["one", "other"] (spP K c_added)) : OkF Pg w K mg base "surd_plus" 4 ["one", "other"] (spP K c_surd_plus) := by
  refine okP D0 sc_surd_plus (fun ds T h => len_surd_plus h) fun f cdv A outer s H E hr => ⟨_, (pss_one (ps_ret (pe_tup (pa_cons (pe_cl h_added (hr.mono (by decide)) (pa_cons (pe_ix ix_tup (pv 0) pe_int (fun _ _ => rfl)) (pa_cons (pe_ix ix_tup (pv 1) pe_int (fun _ _ => rfl)) pa_nil))) (pa_cons (pe_cl h_added (hr.mono (by decide)) (pa_cons (pe_ix ix_tup (pv 0) pe_int (fun _ _ => rfl)) (pa_cons (pe_ix ix_tup (pv 1) pe_int (fun _ _ => rfl)) pa_nil))) pa_nil))))), fun ds T h => ?_⟩
  obtain ⟨a, b, c, d, m, n, rfl, ha, hb, hc, hd, hmn, hT⟩ := h
  exact ds_retp (dp_tup (dap_cons (dp_call (dap_cons (dp_ixT (ds := [eR a, eR b]) (dp_var rfl) dp_int) (dap_cons (dp_ixT (ds := [eR c, eR d]) (dp_var rfl) dp_int) dap_nil)) ⟨a, c, m, n, rfl, ha, hc, hmn, rfl⟩) (dap_cons (dp_call (dap_cons (dp_ixT (ds := [eR a, eR b]) (dp_var rfl) dp_int) (dap_cons (dp_ixT (ds := [eR c, eR d]) (dp_var rfl) dp_int) dap_nil)) ⟨b, d, m, n, rfl, hb, hd, hmn, rfl⟩) dap_nil))) hT
abbrev N_surd_less : List Str := ["one", "other"]
theorem sc_surd_less : FnScope N_surd_less ["one", "other"] (defScope s_surd_less) := ⟨rfl, rfl, rfl, by decide +kernel, rfl, by decide +kernel, by decide +kernel⟩
set_option maxHeartbeats 2000000 in
theorem ok_surd_less {Pg : Program} {w : World} {K : Fg} {mg : Str → Option Value} {base : Heap} (C : Cs K mg) (D0 : DfX K mg "surd_less" s_surd_less ["one", "other"]) (h_difference : OkF Pg w K mg base "difference" 3 ["one", "other"] (spP K c_difference)) : OkF Pg w K mg base "surd_less" 4 ["one", "other"] (spP K c_surd_less) := by
  refine okP D0 sc_surd_less (fun ds T h => len_surd_less h) fun f cdv A outer s H E hr => ⟨_, (pss_one (ps_ret (pe_tup (pa_cons (pe_cl h_difference (hr.mono (by decide)) (pa_cons (pe_ix ix_tup (pv 0) pe_int (fun _ _ => rfl)) (pa_cons (pe_ix ix_tup (pv 1) pe_int (fun _ _ => rfl)) pa_nil))) (pa_cons (pe_cl h_difference (hr.mono (by decide)) (pa_cons (pe_ix ix_tup (pv 0) pe_int (fun _ _ => rfl)) (pa_cons (pe_ix ix_tup (pv 1) pe_int (fun _ _ => rfl)) pa_nil))) pa_nil))))), fun ds T h => ?_⟩
  obtain ⟨p, q, b, c, d, m, n, rfl, hq, hp, hq2, hb, hc, hd, hmn, hT⟩ := h
  exact ds_retp (dp_tup (dap_cons (dp_call (dap_cons (dp_ixT (ds := [eP p q, eR b]) (dp_var rfl) dp_int) (dap_cons (dp_ixT (ds := [eR c, eR d]) (dp_var rfl) dp_int) dap_nil)) ⟨p, q, c, m, n, rfl, hq, hp, hq2, hc, hmn, rfl⟩) (dap_cons (dp_call (dap_cons (dp_ixT (ds := [eP p q, eR b]) (dp_var rfl) dp_int) (dap_cons (dp_ixT (ds := [eR c, eR d]) (dp_var rfl) dp_int) dap_nil)) (dif_of hb hd hmn rfl)) dap_nil))) hT
theorem szR_nat {f k : Nat} (h : f < 2 ^ k) (hk : 0 < k) : SzR k (f : Rat) := ⟨by rw [Rat.num_natCast, Int.natAbs_natCast]; exact h, by rw [Rat.den_natCast]; exact Nat.one_lt_two_pow (by omega)⟩
def c_surd_times : Call := fun ds T => ∃ (f : Nat) (a b c d : Rat) (m n k : Nat), ds = [.int (f : Int), eQ a b, eQ c d] ∧ f < 2 ^ k ∧ SzR m a ∧ SzR m b ∧ SzR n c ∧ SzR n d ∧ 0 < k ∧ 2 * (m + n) + k ≤ 8900 ∧ T (eQ (a * c + b * d * (f : Rat)) (a * d + b * c))
theorem len_surd_times {ds T} (h : c_surd_times ds T) : ds.length = 3 := by obtain ⟨_, _, _, _, _, _, _, _, rfl, _⟩ := h; rfl
abbrev N_surd_times : List Str := ["field", "one", "other", "both", "cross"]
theorem sc_surd_times : FnScope N_surd_times ["field", "one", "other"] (defScope s_surd_times) := ⟨rfl, rfl, rfl, by decide +kernel, rfl, by decide +kernel, by decide +kernel⟩
set_option maxHeartbeats 2000000 in
theorem ok_surd_times {Pg : Program} {w : World} {K : Fg} {mg : Str → Option Value} {base : Heap} (C : Cs K mg) (D0 : DfX K mg "surd_times" s_surd_times ["field", "one", "other"]) (h_product_of : OkF Pg w K mg base "product_of" 3 ["one", "other"] (spP K c_product_of)) (h_added : OkF Pg w K mg base "added" 3 ["one", "other"] (spP K c_added)) : OkF Pg w K mg base "surd_times" 4 ["field", "one", "other"] (spP K c_surd_times) := by
  obtain ⟨v_NOTHING, u_NOTHING, m_NOTHING, r_NOTHING, d_NOTHING⟩ := C.d_NOTHING
  refine okP D0 sc_surd_times (fun ds T h => len_surd_times h) fun f cdv A outer s H E hr => ⟨_, (pss_cons (ps_if (PW.pt (pw_and (pt_cmpR op_eq (pe_ix ix_tup (pe_ix ix_tup (pv 1) pe_int (fun _ _ => rfl)) pe_int (fun _ _ => rfl)) pe_int (nomark _)) (pw_and1 (pt_cmpR op_eq (pe_ix ix_tup (pe_ix ix_tup (pv 2) pe_int (fun _ _ => rfl)) pe_int (fun _ _ => rfl)) pe_int (nomark _)))))
        (pss_one (ps_ret (pe_tup (pa_cons (pe_cl h_product_of (hr.mono (by decide)) (pa_cons (pe_ix ix_tup (pv 1) pe_int (fun _ _ => rfl)) (pa_cons (pe_ix ix_tup (pv 2) pe_int (fun _ _ => rfl)) pa_nil))) (pa_cons (pe_glob (by rfl) m_NOTHING r_NOTHING) pa_nil)))))
        pss_nil)
      (pss_cons (ps_set (i := 3) sc_surd_times.nd rfl (.inl rfl) (pe_cl h_product_of (hr.mono (by decide)) (pa_cons (pe_cl h_product_of (hr.mono (by decide)) (pa_cons (pe_ix ix_tup (pv 1) pe_int (fun _ _ => rfl)) (pa_cons (pe_ix ix_tup (pv 2) pe_int (fun _ _ => rfl)) pa_nil))) (pa_cons (pe_tup (pa_cons (pv 0) (pa_cons pe_int pa_nil))) pa_nil))))
      (pss_cons (ps_set (i := 4) sc_surd_times.nd rfl (.inl rfl) (pe_cl h_added (hr.mono (by decide)) (pa_cons (pe_cl h_product_of (hr.mono (by decide)) (pa_cons (pe_ix ix_tup (pv 1) pe_int (fun _ _ => rfl)) (pa_cons (pe_ix ix_tup (pv 2) pe_int (fun _ _ => rfl)) pa_nil))) (pa_cons (pe_cl h_product_of (hr.mono (by decide)) (pa_cons (pe_ix ix_tup (pv 1) pe_int (fun _ _ => rfl)) (pa_cons (pe_ix ix_tup (pv 2) pe_int (fun _ _ => rfl)) pa_nil))) pa_nil))))
      (pss_one (ps_ret (pe_tup (pa_cons (pe_cl h_added (hr.mono (by decide)) (pa_cons (pe_cl h_product_of (hr.mono (by decide)) (pa_cons (pe_ix ix_tup (pv 1) pe_int (fun _ _ => rfl)) (pa_cons (pe_ix ix_tup (pv 2) pe_int (fun _ _ => rfl)) pa_nil))) (pa_cons (pv 3) pa_nil))) (pa_cons (pv 4) pa_nil)))))))), fun ds T h => ?_⟩
  obtain ⟨f, a, b, c, d, m, n, k, rfl, hf, ha, hb, hc, hd, hk, hmn, hT⟩ := h
  have ix0 : ∀ {ρ : List Sl} {i : Nat} {x y : Rat}, ρ[i]? = some (.va (eQ x y)) → DP K (tOp (rIxT K) (tVar i) (tC (.int 0))) ρ (eR x) := fun {ρ i x y} e => dp_ixT (ds := [eR x, eR y]) (dp_var e) dp_int
  have ix1 : ∀ {ρ : List Sl} {i : Nat} {x y : Rat}, ρ[i]? = some (.va (eQ x y)) → DP K (tOp (rIxT K) (tVar i) (tC (.int 1))) ρ (eR y) := fun {ρ i x y} e => dp_ixT (ds := [eR x, eR y]) (dp_var e) dp_int
  refine ds_when (b := decide (b = 0 ∧ d = 0)) (DTP.is (dtp_and (dtp_test (dp_eqI (dp_ixT (ds := [.int b.num, .int (b.den : Int)]) (ix1 rfl) dp_int) dp_int)) fun _ => dtp_test (dp_eqI (dp_ixT (ds := [.int d.num, .int (d.den : Int)]) (ix1 rfl) dp_int) dp_int)) ?_) (fun z => ?_) fun z => ?_
  · rw [decide_eq_decide.mpr (Rat.num_eq_zero (q := b)), decide_eq_decide.mpr (Rat.num_eq_zero (q := d)), ← Bool.decide_and]
  · obtain ⟨rfl, rfl⟩ := of_decide_eq_true z
    refine ds_retp (dp_tup (dap_cons (dp_call (dap_cons (ix0 rfl) (dap_cons (ix0 rfl) dap_nil)) ⟨a, c, m, n, rfl, ha, hc, by omega, rfl⟩) (dap_cons (dp_c d_NOTHING) dap_nil))) ?_
    have e1 : a * c + 0 * 0 * (f : Rat) = a * c := by grind
    have e2 : a * 0 + 0 * c = (0 : Rat) := by grind
    rw [e1, e2] at hT
    exact hT
  · refine ds_let (dp_call (dap_cons (dp_call (dap_cons (ix1 rfl) (dap_cons (ix1 rfl) dap_nil)) ⟨b, d, m, n, rfl, hb, hd, by omega, rfl⟩) (dap_cons (dp_tup (dap_cons (dp_var rfl) (dap_cons dp_int dap_nil))) dap_nil)) ⟨b * d, (f : Rat), m + n, k, rfl, szR_mul hb hd, szR_nat hf hk, by omega, rfl⟩) ?_
    refine ds_let (dp_call (dap_cons (dp_call (dap_cons (ix0 rfl) (dap_cons (ix1 rfl) dap_nil)) ⟨a, d, m, n, rfl, ha, hd, by omega, rfl⟩) (dap_cons (dp_call (dap_cons (ix1 rfl) (dap_cons (ix0 rfl) dap_nil)) ⟨b, c, m, n, rfl, hb, hc, by omega, rfl⟩) dap_nil)) ⟨a * d, b * c, m + n, m + n, rfl, szR_mul ha hd, szR_mul hb hc, by omega, rfl⟩) ?_
    exact ds_retp (dp_tup (dap_cons (dp_call (dap_cons (dp_call (dap_cons (ix0 rfl) (dap_cons (ix0 rfl) dap_nil)) ⟨a, c, m, n, rfl, ha, hc, by omega, rfl⟩) (dap_cons (dp_var rfl) dap_nil)) ⟨a * c, b * d * (f : Rat), m + n, m + n + k, rfl, szR_mul ha hc, szR_mul (szR_mul hb hd) (szR_nat hf hk), by omega, rfl⟩) (dap_cons (dp_var rfl) dap_nil))) hT
def c_norm_of : Call := fun ds T => ∃ (f : Nat) (a b : Rat) (m k : Nat), ds = [.int (f : Int), eQ a b] ∧ f < 2 ^ k ∧ SzR m a ∧ SzR m b ∧ 0 < k ∧ 4 * m + k ≤ 8900 ∧ T (eR (a * a - b * b * (f : Rat)))
theorem len_norm_of {ds T} (h : c_norm_of ds T) : ds.length = 2 := by obtain ⟨_, _, _, _, _, rfl, _⟩ := h; rfl
theorem szR_norm {f : Nat} {a b : Rat} {m k : Nat} (hf : f < 2 ^ k) (hk : 0 < k) (ha : SzR m a) (hb : SzR m b) : SzR (4 * m + k + 1) (a * a - b * b * (f : Rat)) := szR_mono (szR_sub (szR_mul ha ha) (szR_mul (szR_mul hb hb) (szR_nat hf hk))) (by omega)
abbrev N_norm_of : List Str := ["field", "one"]
theorem sc_norm_of : FnScope N_norm_of ["field", "one"] (defScope s_norm_of) := ⟨rfl, rfl, rfl, by decide +kernel, rfl, by decide +kernel, by decide +kernel⟩
set_option maxHeartbeats 2000000 in
theorem ok_norm_of {Pg : Program} {w : World} {K : Fg} {mg : Str → Option Value} {base : Heap} (C : Cs K mg) (D0 : DfX K mg "norm_of" s_norm_of ["field", "one"]) (h_difference : OkF Pg w K mg base "difference" 3 ["one", "other"] (spP K c_difference)) (h_product_of : OkF Pg w K mg base "product_of" 3 ["one", "other"] (spP K c_product_of)) : OkF Pg w K mg base "norm_of" 4 ["field", "one"] (spP K c_norm_of) := by
  refine okP D0 sc_norm_of (fun ds T h => len_norm_of h) fun f cdv A outer s H E hr => ⟨_, (pss_one (ps_ret (pe_cl h_difference (hr.mono (by decide)) (pa_cons (pe_cl h_product_of (hr.mono (by decide)) (pa_cons (pe_ix ix_tup (pv 1) pe_int (fun _ _ => rfl)) (pa_cons (pe_ix ix_tup (pv 1) pe_int (fun _ _ => rfl)) pa_nil))) (pa_cons (pe_cl h_product_of (hr.mono (by decide)) (pa_cons (pe_cl h_product_of (hr.mono (by decide)) (pa_cons (pe_ix ix_tup (pv 1) pe_int (fun _ _ => rfl)) (pa_cons (pe_ix ix_tup (pv 1) pe_int (fun _ _ => rfl)) pa_nil))) (pa_cons (pe_tup (pa_cons (pv 0) (pa_cons pe_int pa_nil))) pa_nil))) pa_nil))))), fun ds T h => ?_⟩
  obtain ⟨f, a, b, m, k, rfl, hf, ha, hb, hk, hm, hT⟩ := h
  have ix0 : DP K (tOp (rIxT K) (tVar 1) (tC (.int 0))) (initS N_norm_of [.int (f : Int), eQ a b]) (eR a) := dp_ixT (ds := [eR a, eR b]) (dp_var rfl) dp_int
  have ix1 : DP K (tOp (rIxT K) (tVar 1) (tC (.int 1))) (initS N_norm_of [.int (f : Int), eQ a b]) (eR b) := dp_ixT (ds := [eR a, eR b]) (dp_var rfl) dp_int
  exact ds_retp (dp_call (dap_cons (dp_call (dap_cons ix0 (dap_cons ix0 dap_nil)) ⟨a, a, m, m, rfl, ha, ha, by omega, rfl⟩) (dap_cons (dp_call (dap_cons (dp_call (dap_cons ix1 (dap_cons ix1 dap_nil)) ⟨b, b, m, m, rfl, hb, hb, by omega, rfl⟩) (dap_cons (dp_tup (dap_cons (dp_var rfl) (dap_cons dp_int dap_nil))) dap_nil)) ⟨b * b, (f : Rat), m + m, k, rfl, szR_mul hb hb, szR_nat hf hk, by omega, rfl⟩) dap_nil)) (dif_of (szR_mul ha ha) (szR_mul (szR_mul hb hb) (szR_nat hf hk)) (by omega) rfl)) hT
def c_surd_inverse : Call := fun ds T => ∃ (f : Nat) (a b : Rat) (m k : Nat), ds = [.int (f : Int), eQ a b] ∧ f < 2 ^ k ∧ SzR m a ∧ SzR m b ∧ 0 < k ∧ 5 * m + k ≤ 8800 ∧ a * a - b * b * (f : Rat) ≠ 0 ∧ T (eQ (a / (a * a - b * b * (f : Rat))) ((0 - b) / (a * a - b * b * (f : Rat))))
theorem len_surd_inverse {ds T} (h : c_surd_inverse ds T) : ds.length = 2 := by obtain ⟨_, _, _, _, _, rfl, _⟩ := h; rfl
theorem szR0 : SzR 1 0 := ⟨by decide, by decide⟩
abbrev N_surd_inverse : List Str := ["field", "one", "norm"]
theorem sc_surd_inverse : FnScope N_surd_inverse ["field", "one"] (defScope s_surd_inverse) := ⟨rfl, rfl, rfl, by decide +kernel, rfl, by decide +kernel, by decide +kernel⟩
set_option maxHeartbeats 2000000 in
theorem ok_surd_inverse {Pg : Program} {w : World} {K : Fg} {mg : Str → Option Value} {base : Heap} (C : Cs K mg) (D0 : DfX K mg "surd_inverse" s_surd_inverse ["field", "one"]) (h_norm_of : OkF Pg w K mg base "norm_of" 4 ["field", "one"] (spP K c_norm_of)) (h_quotient : OkF Pg w K mg base "quotient" 3 ["one", "other"] (spP K c_quotient)) (h_difference : OkF Pg w K mg base "difference" 3 ["one", "other"] (spP K c_difference)) : OkF Pg w K mg base "surd_inverse" 5 ["field", "one"] (spP K c_surd_inverse) := by
  obtain ⟨v_NOTHING, u_NOTHING, m_NOTHING, r_NOTHING, d_NOTHING⟩ := C.d_NOTHING
  refine okP D0 sc_surd_inverse (fun ds T h => len_surd_inverse h) fun f cdv A outer s H E hr => ⟨_, (pss_cons (ps_set (i := 2) sc_surd_inverse.nd rfl (.inl rfl) (pe_cl h_norm_of (hr.mono (by decide)) (pa_cons (pv 0) (pa_cons (pv 1) pa_nil))))
      (pss_one (ps_ret (pe_tup (pa_cons (pe_cl h_quotient (hr.mono (by decide)) (pa_cons (pe_ix ix_tup (pv 1) pe_int (fun _ _ => rfl)) (pa_cons (pv 2) pa_nil))) (pa_cons (pe_cl h_quotient (hr.mono (by decide)) (pa_cons (pe_cl h_difference (hr.mono (by decide)) (pa_cons (pe_glob (by rfl) m_NOTHING r_NOTHING) (pa_cons (pe_ix ix_tup (pv 1) pe_int (fun _ _ => rfl)) pa_nil))) (pa_cons (pv 2) pa_nil))) pa_nil)))))), fun ds T h => ?_⟩
  obtain ⟨f, a, b, m, k, rfl, hf, ha, hb, hk, hm, hn, hT⟩ := h
  refine ds_let (dp_call (dap_cons (dp_var rfl) (dap_cons (dp_var rfl) dap_nil)) ⟨f, a, b, m, k, rfl, hf, ha, hb, hk, by omega, rfl⟩) ?_
  have hN := szR_norm hf hk ha hb
  exact ds_retp (dp_tup (dap_cons (dp_call (dap_cons (dp_ixT (ds := [eR a, eR b]) (dp_var rfl) dp_int) (dap_cons (dp_var rfl) dap_nil)) ⟨a, _, m, _, rfl, hn, ha, hN, by omega, rfl⟩) (dap_cons (dp_call (dap_cons (dp_call (dap_cons (dp_c d_NOTHING) (dap_cons (dp_ixT (ds := [eR a, eR b]) (dp_var rfl) dp_int) dap_nil)) (dif_of szR0 hb (by omega) rfl)) (dap_cons (dp_var rfl) dap_nil)) ⟨0 - b, _, 1 + m + 1, _, rfl, hn, szR_sub szR0 hb, hN, by omega, rfl⟩) dap_nil))) hT
def divS (f : Nat) (a b c d : Rat) : Rat × Rat :=
  let n := c * c - d * d * (f : Rat)
  (a * (c / n) + b * ((0 - d) / n) * (f : Rat), a * ((0 - d) / n) + b * (c / n))
def c_surd_by : Call := fun ds T => ∃ (f : Nat) (a b c d : Rat) (m n k : Nat), ds = [.int (f : Int), eQ a b, eQ c d] ∧ f < 2 ^ k ∧ SzR m a ∧ SzR m b ∧ SzR n c ∧ SzR n d ∧ 0 < k ∧ 2 * m + 10 * n + 3 * k ≤ 8700 ∧ c * c - d * d * (f : Rat) ≠ 0 ∧ T (eQ (divS f a b c d).1 (divS f a b c d).2)
theorem len_surd_by {ds T} (h : c_surd_by ds T) : ds.length = 3 := by obtain ⟨_, _, _, _, _, _, _, _, rfl, _⟩ := h; rfl
abbrev N_surd_by : List Str := ["field", "one", "other"]
theorem sc_surd_by : FnScope N_surd_by ["field", "one", "other"] (defScope s_surd_by) := ⟨rfl, rfl, rfl, by decide +kernel, rfl, by decide +kernel, by decide +kernel⟩
set_option maxHeartbeats 2000000 in
theorem ok_surd_by {Pg : Program} {w : World} {K : Fg} {mg : Str → Option Value} {base : Heap} (C : Cs K mg) (D0 : DfX K mg "surd_by" s_surd_by ["field", "one", "other"]) (h_surd_times : OkF Pg w K mg base "surd_times" 4 ["field", "one", "other"] (spP K c_surd_times)) (h_surd_inverse : OkF Pg w K mg base "surd_inverse" 5 ["field", "one"] (spP K c_surd_inverse)) : OkF Pg w K mg base "surd_by" 6 ["field", "one", "other"] (spP K c_surd_by) := by
  refine okP D0 sc_surd_by (fun ds T h => len_surd_by h) fun f cdv A outer s H E hr => ⟨_, (pss_one (ps_ret (pe_cl h_surd_times (hr.mono (by decide)) (pa_cons (pv 0) (pa_cons (pv 1) (pa_cons (pe_cl h_surd_inverse (hr.mono (by decide)) (pa_cons (pv 0) (pa_cons (pv 2) pa_nil))) pa_nil)))))), fun ds T h => ?_⟩
  obtain ⟨f, a, b, c, d, m, n, k, rfl, hf, ha, hb, hc, hd, hk, hm, hn, hT⟩ := h
  have hN := szR_norm hf hk hc hd
  have s1 : SzR (5 * n + k + 4) (c / (c * c - d * d * (f : Rat))) := szR_mono (szR_div hc hN hn) (by omega)
  have s2 : SzR (5 * n + k + 4) ((0 - d) / (c * c - d * d * (f : Rat))) := szR_mono (szR_div (szR_sub szR0 hd) hN hn) (by omega)
  exact ds_retp (dp_call (dap_cons (dp_var rfl) (dap_cons (dp_var rfl) (dap_cons (dp_call (dap_cons (dp_var rfl) (dap_cons (dp_var rfl) dap_nil)) ⟨f, c, d, n, k, rfl, hf, hc, hd, hk, by omega, hn, rfl⟩) dap_nil))) ⟨f, a, b, _, _, m, 5 * n + k + 4, k, rfl, hf, ha, hb, s1, s2, hk, by omega, rfl⟩) hT
def sgR (q : Rat) : Int := bi (decide (0 < q)) - bi (decide (q < 0))
def c_sign_of : Call := fun ds T => ∃ q, ds = [eR q] ∧ T (.int (sgR q))
theorem len_sign_of {ds T} (h : c_sign_of ds T) : ds.length = 1 := by obtain ⟨_, rfl, _⟩ := h; rfl
theorem num_pos_iff {q : Rat} : 0 < q.num ↔ 0 < q := by
  have h1 := Rat.num_nonneg (q := q)
  have h2 := Rat.num_eq_zero (q := q)
  constructor
  · intro h
    have a := h1.mp (by omega)
    have b : q ≠ 0 := fun z => by have := h2.mpr z; omega
    grind
  · intro h
    have a := h1.mpr (by grind)
    have b : q.num ≠ 0 := fun z => by have := h2.mp z; grind
    omega
theorem num_neg_iff {q : Rat} : q.num < 0 ↔ q < 0 := by
  have h1 := Rat.num_nonneg (q := q)
  constructor
  · intro h
    have : ¬ (0 ≤ q) := fun z => by have := h1.mpr z; omega
    grind
  · intro h
    have : ¬ (0 ≤ q.num) := fun z => by have := h1.mp z; grind
    omega
abbrev N_sign_of : List Str := ["one"]
theorem sc_sign_of : FnScope N_sign_of ["one"] (defScope s_sign_of) := ⟨rfl, rfl, rfl, by decide +kernel, rfl, by decide +kernel, by decide +kernel⟩
set_option maxHeartbeats 2000000 in
theorem ok_sign_of {Pg : Program} {w : World} {K : Fg} {mg : Str → Option Value} {base : Heap} (C : Cs K mg) (D0 : DfX K mg "sign_of" s_sign_of ["one"])  : OkF Pg w K mg base "sign_of" 1 ["one"] (spP K c_sign_of) := by
  refine okP D0 sc_sign_of (fun ds T h => len_sign_of h) fun f cdv A outer s H E hr => ⟨_, (pss_one (ps_ret (pe_op op_subB (pe_cmpR op_gt (pe_ix ix_tup (pv 0) pe_int (fun _ _ => rfl)) pe_int (nomark _)) (pe_cmpR op_lt (pe_ix ix_tup (pv 0) pe_int (fun _ _ => rfl)) pe_int (nomark _))))), fun ds T h => ?_⟩
  obtain ⟨q, rfl, hT⟩ := h
  refine ds_retp (dp_subB (dp_gt (dp_ixT (dp_var rfl) dp_int) dp_int) (dp_lt (dp_ixT (dp_var rfl) dp_int) dp_int)) ?_
  rw [decide_eq_decide.mpr (num_pos_iff (q := q)), decide_eq_decide.mpr (num_neg_iff (q := q))]
  exact hT
def sgS (f : Nat) (a b : Rat) : Int :=
  if sgR a = sgR b ∨ sgR b = 0 ∨ sgR a = 0 then (if sgR a ≠ 0 then sgR a else sgR b) else sgR a * sgR (a * a - b * b * (f : Rat))
def c_surd_sign : Call := fun ds T => ∃ (f : Nat) (a b : Rat) (m k : Nat), ds = [.int (f : Int), eQ a b] ∧ f < 2 ^ k ∧ SzR m a ∧ SzR m b ∧ 0 < k ∧ 4 * m + k ≤ 8900 ∧ T (.int (sgS f a b))
theorem len_surd_sign {ds T} (h : c_surd_sign ds T) : ds.length = 2 := by obtain ⟨_, _, _, _, _, rfl, _⟩ := h; rfl
theorem sgR_small (q : Rat) : (sgR q).natAbs < 2 ^ 2 := by unfold sgR bi; split <;> split <;> decide
abbrev N_surd_sign : List Str := ["field", "one", "first", "second", "norm"]
theorem sc_surd_sign : FnScope N_surd_sign ["field", "one"] (defScope s_surd_sign) := ⟨rfl, rfl, rfl, by decide +kernel, rfl, by decide +kernel, by decide +kernel⟩
set_option maxHeartbeats 2000000 in
theorem ok_surd_sign {Pg : Program} {w : World} {K : Fg} {mg : Str → Option Value} {base : Heap} (C : Cs K mg) (D0 : DfX K mg "surd_sign" s_surd_sign ["field", "one"]) (h_sign_of : OkF Pg w K mg base "sign_of" 1 ["one"] (spP K c_sign_of)) (h_norm_of : OkF Pg w K mg base "norm_of" 4 ["field", "one"] (spP K c_norm_of)) : OkF Pg w K mg base "surd_sign" 5 ["field", "one"] (spP K c_surd_sign) := by
  refine okP D0 sc_surd_sign (fun ds T h => len_surd_sign h) fun f cdv A outer s H E hr => ⟨_, (pss_cons (ps_par (i := 2) (j := 3) rfl sc_surd_sign.nd rfl rfl (by decide) rfl rfl (pa_cons (pe_cl h_sign_of (hr.mono (by decide)) (pa_cons (pe_ix ix_tup (pv 1) pe_int (fun _ _ => rfl)) pa_nil)) (pa_cons (pe_cl h_sign_of (hr.mono (by decide)) (pa_cons (pe_ix ix_tup (pv 1) pe_int (fun _ _ => rfl)) pa_nil)) pa_nil)) (by rfl))
      (pss_cons (ps_if (PW.pt (pw_or (pt_cmpR op_eq (pv 2) (pv 3) (nomark _)) (pw_or (pt_cmpR op_eq (pv 3) pe_int (nomark _)) (pw_or1 (pt_cmpR op_eq (pv 2) pe_int (nomark _))))))
        (pss_one (ps_ret (pe_ifExp (pt_cmpR op_ne (pv 2) pe_int (nomark _)) (pv 2) (pv 3))))
        pss_nil)
      (pss_cons (ps_set (i := 4) sc_surd_sign.nd rfl (.inl rfl) (pe_cl h_norm_of (hr.mono (by decide)) (pa_cons (pv 0) (pa_cons (pv 1) pa_nil))))
      (pss_one (ps_ret (pe_op op_mulW (pv 2) (pe_cl h_sign_of (hr.mono (by decide)) (pa_cons (pv 4) pa_nil)))))))), fun ds T h => ?_⟩
  obtain ⟨f, a, b, m, k, rfl, hf, ha, hb, hk, hm, hT⟩ := h
  have hb2 : ∀ p q r : Prop, [Decidable p] → [Decidable q] → [Decidable r] → (decide p || (decide q || decide r)) = decide (p ∨ q ∨ r) := fun p q r _ _ _ => by rw [Bool.decide_or, Bool.decide_or]
  refine ds_parp (dap_cons (dp_call (dap_cons (dp_ixT (ds := [eR a, eR b]) (dp_var rfl) dp_int) dap_nil) ⟨a, rfl, rfl⟩) (dap_cons (dp_call (dap_cons (dp_ixT (ds := [eR a, eR b]) (dp_var rfl) dp_int) dap_nil) ⟨b, rfl, rfl⟩) dap_nil)) ?_
  refine ds_when (b := decide (sgR a = sgR b ∨ sgR b = 0 ∨ sgR a = 0)) (DTP.is (dtp_or (dtp_test (dp_eqI (dp_var rfl) (dp_var rfl))) fun _ => dtp_or (dtp_test (dp_eqI (dp_var rfl) dp_int)) fun _ => dtp_test (dp_eqI (dp_var rfl) dp_int)) (hb2 _ _ _)) (fun z => ?_) fun z => ?_
  · have z := of_decide_eq_true z
    refine ds_retp (dp_ite (p := sgR a ≠ 0) (DTP.is (dtp_test (dp_neI (dp_var rfl) dp_int)) (by rw [← decide_not])) (fun _ => dp_var rfl) (fun _ => dp_var rfl)) ?_
    unfold sgS at hT
    rw [if_pos z] at hT
    by_cases q : sgR a ≠ 0
    · rw [if_pos q] at hT ⊢; exact hT
    · rw [if_neg q] at hT ⊢; exact hT
  · have z := of_decide_eq_false z
    refine ds_let (dp_call (dap_cons (dp_var rfl) (dap_cons (dp_var rfl) dap_nil)) ⟨f, a, b, m, k, rfl, hf, ha, hb, hk, hm, rfl⟩) ?_
    refine ds_retp (dp_mul (dp_var rfl) (dp_call (dap_cons (dp_var rfl) dap_nil) ⟨_, rfl, rfl⟩) (cmul (sgR_small _) (sgR_small _) (by decide))) ?_
    unfold sgS at hT
    rw [if_neg z] at hT
    exact hT
def c_surd_is_less : Call := fun ds T => ∃ (f : Nat) (p q : Int) (b c d : Rat) (m n k : Nat), ds = [.int (f : Int), .tuple [eP p q, eR b], eQ c d] ∧ f < 2 ^ k ∧ 0 < q ∧ p.natAbs < 2 ^ m ∧ q.natAbs < 2 ^ m ∧ SzR m b ∧ SzR n c ∧ SzR n d ∧ 0 < k ∧ 4 * (m + n) + k ≤ 8800 ∧ T (.bool (decide (sgS f (Rat.divInt p q - c) (b - d) < 0)))
theorem isless_of {f : Nat} {a b c d : Rat} {m n k : Nat} {T : D → Prop} (hf : f < 2 ^ k) (ha : SzR m a) (hb : SzR m b) (hc : SzR n c) (hd : SzR n d) (hk : 0 < k) (h : 4 * (m + n) + k ≤ 8800) (hT : T (.bool (decide (sgS f (a - c) (b - d) < 0)))) : c_surd_is_less [.int (f : Int), eQ a b, eQ c d] T :=
  ⟨f, a.num, a.den, b, c, d, m, n, k, rfl, hf, den_pos' a, ha.1, szR_den ha, hb, hc, hd, hk, h, by rw [Rat.num_divInt_den]; exact hT⟩
theorem len_surd_is_less {ds T} (h : c_surd_is_less ds T) : ds.length = 3 := by obtain ⟨_, _, _, _, _, _, _, _, _, rfl, _⟩ := h; rfl
theorem szR_divP {p q : Int} {m : Nat} (hq : 0 < q) (hp : p.natAbs < 2 ^ m) (hq2 : q.natAbs < 2 ^ m) : SzR m (Rat.divInt p q) := szR_divInt (by omega) hp hq2
abbrev N_surd_is_less : List Str := ["field", "one", "other"]
theorem sc_surd_is_less : FnScope N_surd_is_less ["field", "one", "other"] (defScope s_surd_is_less) := ⟨rfl, rfl, rfl, by decide +kernel, rfl, by decide +kernel, by decide +kernel⟩
set_option maxHeartbeats 2000000 in
theorem ok_surd_is_less {Pg : Program} {w : World} {K : Fg} {mg : Str → Option Value} {base : Heap} (C : Cs K mg) (D0 : DfX K mg "surd_is_less" s_surd_is_less ["field", "one", "other"]) (h_surd_sign : OkF Pg w K mg base "surd_sign" 5 ["field", "one"] (spP K c_surd_sign)) (h_surd_less : OkF Pg w K mg base "surd_less" 4 ["one", "other"] (spP K c_surd_less)) : OkF Pg w K mg base "surd_is_less" 6 ["field", "one", "other"] (spP K c_surd_is_less) := by
  refine okP D0 sc_surd_is_less (fun ds T h => len_surd_is_less h) fun f cdv A outer s H E hr => ⟨_, (pss_one (ps_ret (pe_cmpR op_lt (pe_cl h_surd_sign (hr.mono (by decide)) (pa_cons (pv 0) (pa_cons (pe_cl h_surd_less (hr.mono (by decide)) (pa_cons (pv 1) (pa_cons (pv 2) pa_nil))) pa_nil))) pe_int (nomark _)))), fun ds T h => ?_⟩
  obtain ⟨f, p, q, b, c, d, m, n, k, rfl, hf, hq, hp, hq2, hb, hc, hd, hk, hm, hT⟩ := h
  exact ds_retp (dp_lt (dp_call (dap_cons (dp_var rfl) (dap_cons (dp_call (dap_cons (dp_var rfl) (dap_cons (dp_var rfl) dap_nil)) ⟨p, q, b, c, d, m, n, rfl, hq, hp, hq2, hb, hc, hd, by omega, rfl⟩) dap_nil)) ⟨f, _, _, m + n + 1, k, rfl, hf, szR_sub (szR_divP hq hp hq2) hc, szR_sub hb hd, hk, by omega, rfl⟩) dp_int) hT

end H50
namespace H50
open PySem PySem.Spec PyProof.Rows L2 DL
theorem sd_pos {f : Nat} {a b : Rat} (h : Sd f a b) : 1 ≤ f := h.f1
/-- the field is one -/
structure Fd (f : Nat) : Prop where
  f1 : 1 ≤ f
  f2 : f < 10 ^ 300
  ok : isField f = true
theorem fd_k {f : Nat} (h : Fd f) : f < 2 ^ 1000 := Nat.lt_trans h.f2 p300
def c_check_two_surds : Call := fun ds T => ∃ (f : Nat) (a b c d : Rat), ds = [.int (f : Int), eQ a b, eQ c d] ∧ Fd f ∧ Sd f a b ∧ Sd f c d ∧ T .none
theorem len_check_two_surds {ds T} (h : c_check_two_surds ds T) : ds.length = 3 := by obtain ⟨_, _, _, _, _, rfl, _⟩ := h; rfl
theorem ds_call0 {K : Fg} {ρ : List Sl} {P : Po} {te : TE} {rest : TS} {d : D} (h : DP K te ρ d) (k : DS K rest ρ P) : DS K (tSeq (tDrop te) rest) ρ P := ds_seq (ds_drop (DE.of h k))
abbrev N_check_two_surds : List Str := ["field", "one", "other"]
theorem sc_check_two_surds : FnScope N_check_two_surds ["field", "one", "other"] (defScope s_check_two_surds) := ⟨rfl, rfl, rfl, by decide +kernel, rfl, by decide +kernel, by decide +kernel⟩
set_option maxHeartbeats 2000000 in
theorem ok_check_two_surds {Pg : Program} {w : World} {K : Fg} {mg : Str → Option Value} {base : Heap} (C : Cs K mg) (D0 : DfX K mg "check_two_surds" s_check_two_surds ["field", "one", "other"]) (h_check_field : OkF Pg w K mg base "check_field" 4 ["field"] (spP K c_check_field)) (h_check_surd : OkF Pg w K mg base "check_surd" 5 ["field", "value"] (spP K c_check_surd)) : OkF Pg w K mg base "check_two_surds" 6 ["field", "one", "other"] (spP K c_check_two_surds) := by
  refine okP D0 sc_check_two_surds (fun ds T h => len_check_two_surds h) fun f cdv A outer s H E hr => ⟨_, (pss_cons (ps_expr (pe_cl h_check_field (hr.mono (by decide)) (pa_cons (pv 0) pa_nil)))
      (pss_cons (ps_expr (pe_cl h_check_surd (hr.mono (by decide)) (pa_cons (pv 0) (pa_cons (pv 1) pa_nil))))
      (pss_one (ps_expr (pe_cl h_check_surd (hr.mono (by decide)) (pa_cons (pv 0) (pa_cons (pv 2) pa_nil))))))), fun ds T h => ?_⟩
  obtain ⟨f, a, b, c, d, rfl, hf, h1, h2, hT⟩ := h
  refine ds_call0 (dp_call (dap_cons (dp_var rfl) dap_nil) ⟨f, rfl, hf.f1, hf.f2, hf.ok, rfl⟩) ?_
  refine ds_call0 (dp_call (dap_cons (dp_var rfl) (dap_cons (dp_var rfl) dap_nil)) ⟨f, a, b, rfl, h1, rfl⟩) ?_
  exact ds_drop (DE.of (dp_call (dap_cons (dp_var rfl) (dap_cons (dp_var rfl) dap_nil)) ⟨f, c, d, rfl, h2, rfl⟩) hT)
def c_surd_sum : Call := fun ds T => ∃ (f : Nat) (a b c d : Rat), ds = [.int (f : Int), eQ a b, eQ c d] ∧ Fd f ∧ Sd f a b ∧ Sd f c d ∧ T (eQ (a + c) (b + d))
theorem len_surd_sum {ds T} (h : c_surd_sum ds T) : ds.length = 3 := by obtain ⟨_, _, _, _, _, rfl, _⟩ := h; rfl
abbrev N_surd_sum : List Str := ["field", "one", "other"]
theorem sc_surd_sum : FnScope N_surd_sum ["field", "one", "other"] (defScope s_surd_sum) := ⟨rfl, rfl, rfl, by decide +kernel, rfl, by decide +kernel, by decide +kernel⟩
set_option maxHeartbeats 2000000 in
theorem ok_surd_sum {Pg : Program} {w : World} {K : Fg} {mg : Str → Option Value} {base : Heap} (C : Cs K mg) (D0 : DfX K mg "surd_sum" s_surd_sum ["field", "one", "other"]) (h_check_two_surds : OkF Pg w K mg base "check_two_surds" 6 ["field", "one", "other"] (spP K c_check_two_surds)) (h_surd_plus : OkF Pg w K mg base "surd_plus" 4 ["one", "other"] (spP K c_surd_plus)) : OkF Pg w K mg base "surd_sum" 7 ["field", "one", "other"] (spP K c_surd_sum) := by
  refine okP D0 sc_surd_sum (fun ds T h => len_surd_sum h) fun f cdv A outer s H E hr => ⟨_, (pss_cons (ps_expr (pe_cl h_check_two_surds (hr.mono (by decide)) (pa_cons (pv 0) (pa_cons (pv 1) (pa_cons (pv 2) pa_nil)))))
      (pss_one (ps_ret (pe_cl h_surd_plus (hr.mono (by decide)) (pa_cons (pv 1) (pa_cons (pv 2) pa_nil)))))), fun ds T h => ?_⟩
  obtain ⟨f, a, b, c, d, rfl, hf, h1, h2, hT⟩ := h
  refine ds_call0 (dp_call (dap_cons (dp_var rfl) (dap_cons (dp_var rfl) (dap_cons (dp_var rfl) dap_nil))) ⟨f, a, b, c, d, rfl, hf, h1, h2, rfl⟩) ?_
  exact ds_retp (dp_call (dap_cons (dp_var rfl) (dap_cons (dp_var rfl) dap_nil)) ⟨a, b, c, d, 1000, 1000, rfl, told_sz h1.ta, told_sz h1.tb, told_sz h2.ta, told_sz h2.tb, by decide, rfl⟩) hT
def c_surd_product : Call := fun ds T => ∃ (f : Nat) (a b c d : Rat), ds = [.int (f : Int), eQ a b, eQ c d] ∧ Fd f ∧ Sd f a b ∧ Sd f c d ∧ T (eQ (a * c + b * d * (f : Rat)) (a * d + b * c))
theorem len_surd_product {ds T} (h : c_surd_product ds T) : ds.length = 3 := by obtain ⟨_, _, _, _, _, rfl, _⟩ := h; rfl
-- not here: surd_product
/-- one parted by another one: with sizes of one's own -/
def c_surd_parted : Call := fun ds T => ∃ (f : Nat) (a b c d : Rat) (m n k : Nat), ds = [.int (f : Int), eQ a b, eQ c d] ∧ Fd f ∧ Sd f a b ∧ Sd f c d ∧ f < 2 ^ k ∧ SzR m a ∧ SzR m b ∧ SzR n c ∧ SzR n d ∧ 0 < k ∧ 2 * m + 10 * n + 3 * k ≤ 8700 ∧ c * c - d * d * (f : Rat) ≠ 0 ∧ T (eQ (divS f a b c d).1 (divS f a b c d).2)
theorem len_surd_parted {ds T} (h : c_surd_parted ds T) : ds.length = 3 := by obtain ⟨_, _, _, _, _, _, _, _, rfl, _⟩ := h; rfl
abbrev N_surd_parted : List Str := ["field", "one", "other"]
theorem sc_surd_parted : FnScope N_surd_parted ["field", "one", "other"] (defScope s_surd_parted) := ⟨rfl, rfl, rfl, by decide +kernel, rfl, by decide +kernel, by decide +kernel⟩
set_option maxHeartbeats 2000000 in
theorem ok_surd_parted {Pg : Program} {w : World} {K : Fg} {mg : Str → Option Value} {base : Heap} (C : Cs K mg) (D0 : DfX K mg "surd_parted" s_surd_parted ["field", "one", "other"]) (h_check_two_surds : OkF Pg w K mg base "check_two_surds" 6 ["field", "one", "other"] (spP K c_check_two_surds)) (h_is_nothing : OkF Pg w K mg base "is_nothing" 1 ["one"] (spP K c_is_nothing)) (h_surd_by : OkF Pg w K mg base "surd_by" 6 ["field", "one", "other"] (spP K c_surd_by)) : OkF Pg w K mg base "surd_parted" 7 ["field", "one", "other"] (spP K c_surd_parted) := by
  refine okP D0 sc_surd_parted (fun ds T h => len_surd_parted h) fun f cdv A outer s H E hr => ⟨_, (pss_cons (ps_expr (pe_cl h_check_two_surds (hr.mono (by decide)) (pa_cons (pv 0) (pa_cons (pv 1) (pa_cons (pv 2) pa_nil)))))
      (pss_cons (ps_if (pt_val (pe_cl h_is_nothing (hr.mono (by decide)) (pa_cons (pv 2) pa_nil)))
        (pss_one ps_never)
        pss_nil)
      (pss_one (ps_ret (pe_cl h_surd_by (hr.mono (by decide)) (pa_cons (pv 0) (pa_cons (pv 1) (pa_cons (pv 2) pa_nil)))))))), fun ds T h => ?_⟩
  obtain ⟨f, a, b, c, d, m, n, k, rfl, hf, h1, h2, hfk, ha, hb, hc, hd, hk, hm, hn, hT⟩ := h
  refine ds_call0 (dp_call (dap_cons (dp_var rfl) (dap_cons (dp_var rfl) (dap_cons (dp_var rfl) dap_nil))) ⟨f, a, b, c, d, rfl, hf, h1, h2, rfl⟩) ?_
  have nz : ¬ (c = 0 ∧ d = 0) := fun z => hn (by obtain ⟨rfl, rfl⟩ := z; grind)
  refine ds_when (b := false) (DTP.is (dtp_B (dp_call (dap_cons (dp_var rfl) dap_nil) ⟨c, d, rfl, rfl⟩)) (decide_eq_false nz)) (fun z => nomatch z) fun _ => ?_
  exact ds_retp (dp_call (dap_cons (dp_var rfl) (dap_cons (dp_var rfl) (dap_cons (dp_var rfl) dap_nil))) ⟨f, a, b, c, d, m, n, k, rfl, hfk, ha, hb, hc, hd, hk, hm, hn, rfl⟩) hT
def c_surd_compared : Call := fun ds T => ∃ (f : Nat) (a b c d : Rat), ds = [.int (f : Int), eQ a b, eQ c d] ∧ Fd f ∧ Sd f a b ∧ Sd f c d ∧ f < 2 ^ 800 ∧ T (.int (sgS f (a - c) (b - d)))
theorem len_surd_compared {ds T} (h : c_surd_compared ds T) : ds.length = 3 := by obtain ⟨_, _, _, _, _, rfl, _⟩ := h; rfl
abbrev N_surd_compared : List Str := ["field", "one", "other"]
theorem sc_surd_compared : FnScope N_surd_compared ["field", "one", "other"] (defScope s_surd_compared) := ⟨rfl, rfl, rfl, by decide +kernel, rfl, by decide +kernel, by decide +kernel⟩
set_option maxHeartbeats 2000000 in
theorem ok_surd_compared {Pg : Program} {w : World} {K : Fg} {mg : Str → Option Value} {base : Heap} (C : Cs K mg) (D0 : DfX K mg "surd_compared" s_surd_compared ["field", "one", "other"]) (h_check_two_surds : OkF Pg w K mg base "check_two_surds" 6 ["field", "one", "other"] (spP K c_check_two_surds)) (h_surd_sign : OkF Pg w K mg base "surd_sign" 5 ["field", "one"] (spP K c_surd_sign)) (h_surd_less : OkF Pg w K mg base "surd_less" 4 ["one", "other"] (spP K c_surd_less)) : OkF Pg w K mg base "surd_compared" 7 ["field", "one", "other"] (spP K c_surd_compared) := by
  refine okP D0 sc_surd_compared (fun ds T h => len_surd_compared h) fun f cdv A outer s H E hr => ⟨_, (pss_cons (ps_expr (pe_cl h_check_two_surds (hr.mono (by decide)) (pa_cons (pv 0) (pa_cons (pv 1) (pa_cons (pv 2) pa_nil)))))
      (pss_one (ps_ret (pe_cl h_surd_sign (hr.mono (by decide)) (pa_cons (pv 0) (pa_cons (pe_cl h_surd_less (hr.mono (by decide)) (pa_cons (pv 1) (pa_cons (pv 2) pa_nil))) pa_nil)))))), fun ds T h => ?_⟩
  obtain ⟨f, a, b, c, d, rfl, hf, h1, h2, hfk, hT⟩ := h
  refine ds_call0 (dp_call (dap_cons (dp_var rfl) (dap_cons (dp_var rfl) (dap_cons (dp_var rfl) dap_nil))) ⟨f, a, b, c, d, rfl, hf, h1, h2, rfl⟩) ?_
  exact ds_retp (dp_call (dap_cons (dp_var rfl) (dap_cons (dp_call (dap_cons (dp_var rfl) (dap_cons (dp_var rfl) dap_nil)) (less_of (told_sz h1.ta) (told_sz h1.tb) (told_sz h2.ta) (told_sz h2.tb) (by decide) rfl)) dap_nil)) ⟨f, a - c, b - d, 2001, 800, rfl, hfk, szR_sub (told_sz h1.ta) (told_sz h2.ta), szR_sub (told_sz h1.tb) (told_sz h2.tb), by decide, by decide, rfl⟩) hT
def lcmN (x y : Nat) : Nat := x * y / Nat.gcd x y
def topI (a b : Rat) : Int := a.num * ((lcmN a.den b.den / a.den : Nat) : Int)
def byI (a b : Rat) : Int := b.num * ((lcmN a.den b.den / b.den : Nat) : Int)
def sqN (f : Nat) (y : Int) : Nat := y.natAbs * y.natAbs * f
def rootS (f : Nat) (y : Int) : Int := if y < 0 then 0 - ((Float64.isqrt (sqN f y) : Nat) : Int) - (if Float64.isqrt (sqN f y) * Float64.isqrt (sqN f y) ≠ sqN f y then 1 else 0) else ((Float64.isqrt (sqN f y) : Nat) : Int)
def floorS (f : Nat) (a b : Rat) : Int := (topI a b + rootS f (byI a b)).fdiv ((lcmN a.den b.den : Nat) : Int)
theorem sqN_int (f : Nat) (y : Int) : y * y * (f : Int) = ((sqN f y : Nat) : Int) := by
  unfold sqN
  rw [Int.natCast_mul, Int.natCast_mul]
  have : y * y = (y.natAbs : Int) * (y.natAbs : Int) := Int.natAbs_mul_self.symm
  rw [this]
def c_surd_floor : Call := fun ds T => ∃ (f : Nat) (a b : Rat) (m k : Nat), ds = [.int (f : Int), eQ a b] ∧ f < 2 ^ k ∧ SzR m a ∧ SzR m b ∧ 6 * m + k ≤ 8900 ∧ T (.int (floorS f a b))
theorem len_surd_floor {ds T} (h : c_surd_floor ds T) : ds.length = 2 := by obtain ⟨_, _, _, _, _, rfl, _⟩ := h; rfl
theorem lcm_pos {x y : Nat} (hx : 0 < x) (hy : 0 < y) : 0 < lcmN x y := by
  unfold lcmN
  exact Nat.div_pos (Nat.le_of_dvd (Nat.mul_pos hx hy) (Nat.dvd_trans (Nat.gcd_dvd_left x y) (Nat.dvd_mul_right x y))) (Nat.gcd_pos_of_pos_left _ hx)
theorem lcm_lt {x y m : Nat} (hx : x < 2 ^ m) (hy : y < 2 ^ m) : lcmN x y < 2 ^ (m + m) := Nat.lt_of_le_of_lt (Nat.div_le_self _ _) (nat_two_mul hx hy)
abbrev N_surd_floor : List Str := ["field", "one", "low", "top", "by", "root"]
theorem sc_surd_floor : FnScope N_surd_floor ["field", "one"] (defScope s_surd_floor) := ⟨rfl, rfl, rfl, by decide +kernel, rfl, by decide +kernel, by decide +kernel⟩
set_option maxHeartbeats 2000000 in
theorem ok_surd_floor {Pg : Program} {w : World} {K : Fg} {mg : Str → Option Value} {base : Heap} (C : Cs K mg) (D0 : DfX K mg "surd_floor" s_surd_floor ["field", "one"]) (h_common : OkF Pg w K mg base "common" 1 ["one", "other"] (spP K c_common)) (h_floor_root : OkF Pg w K mg base "floor_root" 1 ["number"] (spP K c_floor_root)) : OkF Pg w K mg base "surd_floor" 2 ["field", "one"] (spP K c_surd_floor) := by
  refine okP D0 sc_surd_floor (fun ds T h => len_surd_floor h) fun f cdv A outer s H E hr => ⟨_, (pss_cons (ps_set (i := 2) sc_surd_floor.nd rfl (.inl rfl) (pe_op op_fdivX (pe_op op_mulW (pe_ix ix_tup (pe_ix ix_tup (pv 1) pe_int (fun _ _ => rfl)) pe_int (fun _ _ => rfl)) (pe_ix ix_tup (pe_ix ix_tup (pv 1) pe_int (fun _ _ => rfl)) pe_int (fun _ _ => rfl))) (pe_cl h_common (hr.mono (by decide)) (pa_cons (pe_ix ix_tup (pe_ix ix_tup (pv 1) pe_int (fun _ _ => rfl)) pe_int (fun _ _ => rfl)) (pa_cons (pe_ix ix_tup (pe_ix ix_tup (pv 1) pe_int (fun _ _ => rfl)) pe_int (fun _ _ => rfl)) pa_nil)))))
      (pss_cons (ps_par (i := 3) (j := 4) rfl sc_surd_floor.nd rfl rfl (by decide) rfl rfl (pa_cons (pe_op op_mulW (pe_ix ix_tup (pe_ix ix_tup (pv 1) pe_int (fun _ _ => rfl)) pe_int (fun _ _ => rfl)) (pe_op op_fdivX (pv 2) (pe_ix ix_tup (pe_ix ix_tup (pv 1) pe_int (fun _ _ => rfl)) pe_int (fun _ _ => rfl)))) (pa_cons (pe_op op_mulW (pe_ix ix_tup (pe_ix ix_tup (pv 1) pe_int (fun _ _ => rfl)) pe_int (fun _ _ => rfl)) (pe_op op_fdivX (pv 2) (pe_ix ix_tup (pe_ix ix_tup (pv 1) pe_int (fun _ _ => rfl)) pe_int (fun _ _ => rfl)))) pa_nil)) (by rfl))
      (pss_cons (ps_set (i := 5) sc_surd_floor.nd rfl (.inl rfl) (pe_cl h_floor_root (hr.mono (by decide)) (pa_cons (pe_op op_mulW (pe_op op_mulW (pv 4) (pv 4)) (pv 0)) pa_nil)))
      (pss_cons (ps_if (pt_cmpR op_lt (pv 4) pe_int (nomark _))
        (pss_one (ps_set (i := 5) sc_surd_floor.nd rfl (.inl rfl) (pe_op op_sub (pe_op op_sub pe_int (pv 5)) (pe_ifExp (pt_cmpR op_ne (pe_op op_mulW (pv 5) (pv 5)) (pe_op op_mulW (pe_op op_mulW (pv 4) (pv 4)) (pv 0)) (nomark _)) pe_int pe_int))))
        pss_nil)
      (pss_one (ps_ret (pe_op op_fdivX (pe_op op_add (pv 3) (pv 5)) (pv 2)))))))), fun ds T h => ?_⟩
  obtain ⟨f, a, b, m, k, rfl, hf, ha, hb, hm, hT⟩ := h
  have ix0 : ∀ {ρ : List Sl} {i : Nat} {x y : Rat}, ρ[i]? = some (.va (eQ x y)) → DP K (tOp (rIxT K) (tVar i) (tC (.int 0))) ρ (eR x) := fun {ρ i x y} e => dp_ixT (ds := [eR x, eR y]) (dp_var e) dp_int
  have ix1 : ∀ {ρ : List Sl} {i : Nat} {x y : Rat}, ρ[i]? = some (.va (eQ x y)) → DP K (tOp (rIxT K) (tVar i) (tC (.int 1))) ρ (eR y) := fun {ρ i x y} e => dp_ixT (ds := [eR x, eR y]) (dp_var e) dp_int
  have n0 : ∀ {ρ : List Sl} {te : TE} {x : Rat}, DP K te ρ (eR x) → DP K (tOp (rIxT K) te (tC (.int 0))) ρ (.int x.num) := fun {ρ te x} e => dp_ixT (ds := [.int x.num, .int (x.den : Int)]) e dp_int
  have n1 : ∀ {ρ : List Sl} {te : TE} {x : Rat}, DP K te ρ (eR x) → DP K (tOp (rIxT K) te (tC (.int 1))) ρ (.int (x.den : Int)) := fun {ρ te x} e => dp_ixT (ds := [.int x.num, .int (x.den : Int)]) e dp_int
  have gp : 0 < Nat.gcd a.den b.den := Nat.gcd_pos_of_pos_left _ a.den_pos
  have gl : Nat.gcd a.den b.den < 2 ^ m := Nat.lt_of_le_of_lt (Nat.gcd_le_left _ a.den_pos) ha.2
  have L0 := lcm_pos a.den_pos b.den_pos
  have L1 := lcm_lt ha.2 hb.2
  have da : (a.den : Int).natAbs < 2 ^ m := szR_den ha
  have db : (b.den : Int).natAbs < 2 ^ m := szR_den hb
  have gE : ∀ x : Int, CDivX x ((Nat.gcd ((a.den : Int)).natAbs ((b.den : Int)).natAbs : Nat) : Int) := fun x => cdiv (by rw [Int.natAbs_natCast, Int.natAbs_natCast]; omega) (b := m) (by rw [Int.natAbs_natCast, Int.natAbs_natCast, Int.natAbs_natCast]; exact gl) (by omega)
  refine ds_let (DP.is (dp_div (dp_mul (n1 (ix0 rfl)) (n1 (ix1 rfl)) (cmul da db (by omega))) (dp_call (dap_cons (n1 (ix0 rfl)) (dap_cons (n1 (ix1 rfl)) dap_nil)) ⟨_, _, rfl, rfl⟩) (gE _)) (e := .int ((lcmN a.den b.den : Nat) : Int)) (by rw [Int.natAbs_natCast, Int.natAbs_natCast, ← Int.natCast_mul, fdiv_nat]; rfl)) ?_
  have qa : ((lcmN a.den b.den / a.den : Nat) : Int).natAbs < 2 ^ (m + m) := nat_lt2 (Nat.lt_of_le_of_lt (Nat.div_le_self _ _) L1)
  have qb : ((lcmN a.den b.den / b.den : Nat) : Int).natAbs < 2 ^ (m + m) := nat_lt2 (Nat.lt_of_le_of_lt (Nat.div_le_self _ _) L1)
  have da0 : (a.den : Int) ≠ 0 := by have := a.den_pos; omega
  have db0 : (b.den : Int) ≠ 0 := by have := b.den_pos; omega
  refine ds_parp (d := .int (topI a b)) (e := .int (byI a b)) (dap_cons (DP.is (dp_mul (n0 (ix0 rfl)) (DP.is (dp_div (dp_var rfl) (n1 (ix0 rfl)) (cdiv da0 da (by omega))) (by rw [fdiv_nat])) (cmul ha.1 qa (by omega))) rfl) (dap_cons (DP.is (dp_mul (n0 (ix1 rfl)) (DP.is (dp_div (dp_var rfl) (n1 (ix1 rfl)) (cdiv db0 db (by omega))) (by rw [fdiv_nat])) (cmul hb.1 qb (by omega))) rfl) dap_nil)) ?_
  have yb : (byI a b).natAbs < 2 ^ (3 * m) := lt2_mono (mul_lt2 hb.1 qb) (by omega)
  have yyb : (byI a b * byI a b).natAbs < 2 ^ (6 * m) := lt2_mono (mul_lt2 yb yb) (by omega)
  have sq : sqN f (byI a b) < 2 ^ 8900 := by
    have h1 : ((sqN f (byI a b) : Nat) : Int).natAbs < 2 ^ (6 * m + k) := by rw [← sqN_int]; exact mul_lt2 yyb (nat_lt2 hf)
    rw [Int.natAbs_natCast] at h1
    exact Nat.lt_of_lt_of_le h1 (Nat.pow_le_pow_right (by decide) (by omega))
  have mulF : ∀ {ρ : List Sl}, ρ[0]? = some (.va (.int (f : Int))) → ρ[4]? = some (.va (.int (byI a b))) → DP K (tOp rMulI (tOp rMulI (tVar 4) (tVar 4)) (tVar 0)) ρ (.int ((sqN f (byI a b) : Nat) : Int)) := fun {ρ} e1 e2 => DP.is (dp_mul (dp_mul (dp_var e2) (dp_var e2) (cmul yb yb (by omega))) (dp_var e1) (cmul yyb (nat_lt2 hf) (by omega))) (by rw [sqN_int])
  refine ds_let (dp_call (dap_cons (mulF rfl rfl) dap_nil) ⟨_, rfl, Nat.lt_of_lt_of_le sq (Nat.pow_le_pow_right (by decide) (by decide)), rfl⟩) ?_
  have rS : ((Float64.isqrt (sqN f (byI a b)) : Nat) : Int).natAbs < 2 ^ 8900 := nat_lt2 (Nat.lt_of_le_of_lt (isqrt_le _) sq)
  have fin : ∀ {ρ : List Sl}, ρ[2]? = some (.va (.int ((lcmN a.den b.den : Nat) : Int))) → ρ[3]? = some (.va (.int (topI a b))) → ρ[5]? = some (.va (.int (rootS f (byI a b)))) → DP K (tOp rDivI (tOp rAddI (tVar 3) (tVar 5)) (tVar 2)) ρ (.int (floorS f a b)) := fun {ρ} e2 e3 e5 => dp_div (dp_add (dp_var e3) (dp_var e5)) (dp_var e2) (cdiv (by omega) (nat_lt2 L1) (by omega))
  have hres : rootS f (byI a b) = if byI a b < 0 then 0 - ((Float64.isqrt (sqN f (byI a b)) : Nat) : Int) - (if Float64.isqrt (sqN f (byI a b)) * Float64.isqrt (sqN f (byI a b)) ≠ sqN f (byI a b) then 1 else 0) else ((Float64.isqrt (sqN f (byI a b)) : Nat) : Int) := rfl
  refine ds_whenq (p := byI a b < 0) (dtp_test (dp_lt (dp_var rfl) dp_int)) (fun z => ?_) fun z => ?_
  · rw [if_pos z] at hres
    refine ds_asg (DE.of (DP.is (dp_sub (dp_sub dp_int (dp_var rfl)) (dp_ite (p := Float64.isqrt (sqN f (byI a b)) * Float64.isqrt (sqN f (byI a b)) ≠ sqN f (byI a b)) (d := .int 1) (e := .int 0) (DTP.is (dtp_test (dp_neI (dp_mul (dp_var rfl) (dp_var rfl) (cmul rS rS (by decide))) (mulF rfl rfl))) ?_) (fun _ => dp_int) (fun _ => dp_int) |>.is (e := .int (if Float64.isqrt (sqN f (byI a b)) * Float64.isqrt (sqN f (byI a b)) ≠ sqN f (byI a b) then 1 else 0)) (by split <;> rfl))) (e := .int (rootS f (byI a b))) (by rw [hres])) (dg_name ?_))
    · rw [← decide_not]
      exact decide_eq_decide.mpr (by
        constructor
        · intro h e; apply h; exact_mod_cast e
        · intro h e; apply h; exact_mod_cast e)
    · exact ds_retp (fin rfl rfl rfl) hT
  · rw [if_neg z] at hres
    have fin2 := @fin
    rw [hres] at fin2
    exact ds_retp (fin2 rfl rfl rfl) hT
def c_surd_rounded : Call := fun ds T => ∃ (f : Nat) (a b : Rat) (m k : Nat), ds = [.int (f : Int), eQ a b] ∧ Fd f ∧ Sd f a b ∧ f < 2 ^ k ∧ SzR m a ∧ SzR m b ∧ 6 * m + k ≤ 8900 ∧ T (.int (floorS f a b))
theorem len_surd_rounded {ds T} (h : c_surd_rounded ds T) : ds.length = 2 := by obtain ⟨_, _, _, _, _, rfl, _⟩ := h; rfl
abbrev N_surd_rounded : List Str := ["field", "one"]
theorem sc_surd_rounded : FnScope N_surd_rounded ["field", "one"] (defScope s_surd_rounded) := ⟨rfl, rfl, rfl, by decide +kernel, rfl, by decide +kernel, by decide +kernel⟩
set_option maxHeartbeats 2000000 in
theorem ok_surd_rounded {Pg : Program} {w : World} {K : Fg} {mg : Str → Option Value} {base : Heap} (C : Cs K mg) (D0 : DfX K mg "surd_rounded" s_surd_rounded ["field", "one"]) (h_check_field : OkF Pg w K mg base "check_field" 4 ["field"] (spP K c_check_field)) (h_check_surd : OkF Pg w K mg base "check_surd" 5 ["field", "value"] (spP K c_check_surd)) (h_surd_floor : OkF Pg w K mg base "surd_floor" 2 ["field", "one"] (spP K c_surd_floor)) : OkF Pg w K mg base "surd_rounded" 6 ["field", "one"] (spP K c_surd_rounded) := by
  refine okP D0 sc_surd_rounded (fun ds T h => len_surd_rounded h) fun f cdv A outer s H E hr => ⟨_, (pss_cons (ps_expr (pe_cl h_check_field (hr.mono (by decide)) (pa_cons (pv 0) pa_nil)))
      (pss_cons (ps_expr (pe_cl h_check_surd (hr.mono (by decide)) (pa_cons (pv 0) (pa_cons (pv 1) pa_nil))))
      (pss_one (ps_ret (pe_cl h_surd_floor (hr.mono (by decide)) (pa_cons (pv 0) (pa_cons (pv 1) pa_nil))))))), fun ds T h => ?_⟩
  obtain ⟨f, a, b, m, k, rfl, hf, h1, hfk, ha, hb, hm, hT⟩ := h
  refine ds_call0 (dp_call (dap_cons (dp_var rfl) dap_nil) ⟨f, rfl, hf.f1, hf.f2, hf.ok, rfl⟩) ?_
  refine ds_call0 (dp_call (dap_cons (dp_var rfl) (dap_cons (dp_var rfl) dap_nil)) ⟨f, a, b, rfl, h1, rfl⟩) ?_
  exact ds_retp (dp_call (dap_cons (dp_var rfl) (dap_cons (dp_var rfl) dap_nil)) ⟨f, a, b, m, k, rfl, hfk, ha, hb, hm, rfl⟩) hT

end H50
namespace H50
open PySem PySem.Spec PyProof.Rows L2 DL
theorem floorS_lt {f : Nat} {a b : Rat} {m k : Nat} (hf : f < 2 ^ k) (ha : SzR m a) (hb : SzR m b) : (floorS f a b).natAbs < 2 ^ (6 * m + k + 3) := by
  have L1 := lcm_lt ha.2 hb.2
  have qa : ((lcmN a.den b.den / a.den : Nat) : Int).natAbs < 2 ^ (m + m) := nat_lt2 (Nat.lt_of_le_of_lt (Nat.div_le_self _ _) L1)
  have qb : ((lcmN a.den b.den / b.den : Nat) : Int).natAbs < 2 ^ (m + m) := nat_lt2 (Nat.lt_of_le_of_lt (Nat.div_le_self _ _) L1)
  have ta : (topI a b).natAbs < 2 ^ (6 * m + k + 2) := lt2_mono (mul_lt2 ha.1 qa) (by omega)
  have yb : (byI a b).natAbs < 2 ^ (3 * m) := lt2_mono (mul_lt2 hb.1 qb) (by omega)
  have yyb : (byI a b * byI a b).natAbs < 2 ^ (6 * m) := lt2_mono (mul_lt2 yb yb) (by omega)
  have sq : sqN f (byI a b) < 2 ^ (6 * m + k) := by
    have h1 : ((sqN f (byI a b) : Nat) : Int).natAbs < 2 ^ (6 * m + k) := by rw [← sqN_int]; exact mul_lt2 yyb (nat_lt2 hf)
    rw [Int.natAbs_natCast] at h1
    exact h1
  have rb : (rootS f (byI a b)).natAbs < 2 ^ (6 * m + k + 2) := by
    have h1 := isqrt_le (sqN f (byI a b))
    have h2 : 2 ^ (6 * m + k + 2) = 4 * 2 ^ (6 * m + k) := by rw [Nat.pow_add, Nat.mul_comm]
    unfold rootS
    split
    · split <;> omega
    · omega
  have s := add_lt2 ta rb
  unfold floorS
  rw [Int.fdiv_eq_ediv_of_nonneg _ (Int.natCast_nonneg _)]
  exact Nat.lt_of_le_of_lt (Int.natAbs_ediv_le_natAbs _ _) s
theorem szR_pow (i : Nat) : SzR (i + 1) ((2 ^ i : Nat) : Rat) := szR_nat (by rw [Nat.pow_succ]; have := Nat.two_pow_pos i; omega) (by omega)
def candS (f : Nat) (a b : Rat) (i : Nat) : Int := floorS f (a * ((2 ^ i : Nat) : Rat)) (b * ((2 ^ i : Nat) : Rat)) + 1
def stopS (f : Nat) (a b c d : Rat) (i : Nat) : Prop := sgS f (Rat.divInt (candS f a b i) ((2 ^ i : Nat) : Int) - c) (0 - d) < 0
instance {f : Nat} {a b c d : Rat} {i : Nat} : Decidable (stopS f a b c d i) := inferInstanceAs (Decidable (_ < _))
def c_fraction_between : Call := fun ds T => ∃ (f : Nat) (a b c d : Rat) (m n k N : Nat), ds = [.int (f : Int), eQ a b, eQ c d] ∧ f < 2 ^ k ∧ SzR m a ∧ SzR m b ∧ SzR n c ∧ SzR n d ∧ 0 < k ∧ 24 * (m + N + 1) + 4 * n + 5 * k + 20 ≤ 8800 ∧ stopS f a b c d N ∧ ∀ i, i ≤ N → stopS f a b c d i → T (eR (Rat.divInt (candS f a b i) ((2 ^ i : Nat) : Int)))
theorem len_fraction_between {ds T} (h : c_fraction_between ds T) : ds.length = 3 := by obtain ⟨_, _, _, _, _, _, _, _, _, rfl, _⟩ := h; rfl
theorem candS0 (f : Nat) (a b : Rat) : floorS f a b + 1 = candS f a b 0 := by
  unfold candS
  have e : ((2 ^ 0 : Nat) : Rat) = 1 := by simp
  rw [e, Rat.mul_one, Rat.mul_one]
theorem pow2_int (i : Nat) : (2 : Int) * ((2 ^ i : Nat) : Int) = ((2 ^ (i + 1) : Nat) : Int) := by
  rw [Nat.pow_succ, Int.natCast_mul]; omega
abbrev N_fraction_between : List Str := ["field", "one", "other", "low", "found", "by"]
theorem sc_fraction_between : FnScope N_fraction_between ["field", "one", "other"] (defScope s_fraction_between) := ⟨rfl, rfl, rfl, by decide +kernel, rfl, by decide +kernel, by decide +kernel⟩
set_option maxHeartbeats 2000000 in
theorem ok_fraction_between {Pg : Program} {w : World} {K : Fg} {mg : Str → Option Value} {base : Heap} (C : Cs K mg) (D0 : DfX K mg "fraction_between" s_fraction_between ["field", "one", "other"]) (h_surd_floor : OkF Pg w K mg base "surd_floor" 2 ["field", "one"] (spP K c_surd_floor)) (h_surd_is_less : OkF Pg w K mg base "surd_is_less" 6 ["field", "one", "other"] (spP K c_surd_is_less)) (h_surd_of : OkF Pg w K mg base "surd_of" 1 ["fraction"] (spP K c_surd_of)) (h_surd_times : OkF Pg w K mg base "surd_times" 4 ["field", "one", "other"] (spP K c_surd_times)) (h_common : OkF Pg w K mg base "common" 1 ["one", "other"] (spP K c_common)) : OkF Pg w K mg base "fraction_between" 7 ["field", "one", "other"] (spP K c_fraction_between) := by
  refine okP D0 sc_fraction_between (fun ds T h => len_fraction_between h) fun f cdv A outer s H E hr => ⟨_, (pss_cons (ps_set (i := 3) sc_fraction_between.nd rfl (.inl rfl) pe_int)
      (pss_cons (ps_set (i := 4) sc_fraction_between.nd rfl (.inl rfl) (pe_tup (pa_cons (pe_op op_add (pe_cl h_surd_floor (hr.mono (by decide)) (pa_cons (pv 0) (pa_cons (pv 1) pa_nil))) pe_int) (pa_cons pe_int pa_nil))))
      (pss_cons (ps_while PassesOwn.never (pt_not (pt_val (pe_cl h_surd_is_less (hr.mono (by decide)) (pa_cons (pv 0) (pa_cons (pe_cl h_surd_of (hr.mono (by decide)) (pa_cons (pv 4) pa_nil)) (pa_cons (pv 2) pa_nil))))))
        (pss_cons (ps_set (i := 3) sc_fraction_between.nd rfl (.inl rfl) (pe_op op_mulW pe_int (pv 3)))
        (pss_one (ps_set (i := 4) sc_fraction_between.nd rfl (.inl rfl) (pe_tup (pa_cons (pe_op op_add (pe_cl h_surd_floor (hr.mono (by decide)) (pa_cons (pv 0) (pa_cons (pe_cl h_surd_times (hr.mono (by decide)) (pa_cons (pv 0) (pa_cons (pv 1) (pa_cons (pe_cl h_surd_of (hr.mono (by decide)) (pa_cons (pe_tup (pa_cons (pv 3) (pa_cons pe_int pa_nil))) pa_nil)) pa_nil)))) pa_nil))) pe_int) (pa_cons (pv 3) pa_nil)))))))
      (pss_cons (ps_set (i := 5) sc_fraction_between.nd rfl (.inl rfl) (pe_cl h_common (hr.mono (by decide)) (pa_cons (pe_ix ix_tup (pv 4) pe_int (fun _ _ => rfl)) (pa_cons (pe_ix ix_tup (pv 4) pe_int (fun _ _ => rfl)) pa_nil))))
      (pss_one (ps_ret (pe_tup (pa_cons (pe_op op_fdivX (pe_ix ix_tup (pv 4) pe_int (fun _ _ => rfl)) (pv 5)) (pa_cons (pe_op op_fdivX (pe_ix ix_tup (pv 4) pe_int (fun _ _ => rfl)) (pv 5)) pa_nil))))))))), fun ds T h => ?_⟩
  obtain ⟨f, a, b, c, d, m, n, k, N, rfl, hf, ha, hb, hc, hd, hk, hm, hN, hT⟩ := h
  have cs : ∀ i, i ≤ N → (candS f a b i).natAbs < 2 ^ (6 * (m + N + 1) + k + 4) := fun i hi => by
    have h1 := floorS_lt hf (szR_mono (szR_mul ha (szR_pow i)) (n := m + N + 1) (by omega)) (szR_mono (szR_mul hb (szR_pow i)) (n := m + N + 1) (by omega))
    exact add_lt2 (b := 1) h1 (by
      have := Nat.two_pow_pos (6 * (m + N + 1) + k + 2)
      rw [show 6 * (m + N + 1) + k + 3 = (6 * (m + N + 1) + k + 2) + 1 from rfl, Nat.pow_succ]; show 1 < _; omega)
  have ps : ∀ i, i ≤ N → ((2 ^ i : Nat) : Int).natAbs < 2 ^ (6 * (m + N + 1) + k + 4) := fun i hi => nat_lt2 (Nat.pow_lt_pow_right (by decide) (by omega))
  have pp : ∀ i : Nat, (0 : Int) < ((2 ^ i : Nat) : Int) := fun i => Int.natCast_pos.mpr (Nat.two_pow_pos i)
  refine ds_let dp_int ?_
  refine ds_let (d := eP (candS f a b 0) ((2 ^ 0 : Nat) : Int)) (DP.is (dp_tup (dap_cons (dp_add (dp_call (dap_cons (dp_var rfl) (dap_cons (dp_var rfl) dap_nil)) ⟨f, a, b, m, k, rfl, hf, ha, hb, by omega, rfl⟩) dp_int) (dap_cons dp_int dap_nil))) (by rw [candS0]; rfl)) ?_
  refine ds_seq (ds_while (S := Nat) (fun i => [.va (.int (f : Int)), .va (eQ a b), .va (eQ c d), .va (.int ((2 ^ i : Nat) : Int)), .va (eP (candS f a b i) ((2 ^ i : Nat) : Int)), .no]) (fun i => i ≤ N) (fun i => N - i) 0 rfl (Nat.zero_le _) ?_)
  intro i hi
  have hle : i ≤ N := hi
  refine DT.of (b := !decide (stopS f a b c d i)) (dtp_not (dtp_B (dp_call (dap_cons (dp_var rfl) (dap_cons (dp_call (dap_cons (dp_var rfl) dap_nil) ⟨_, rfl, rfl⟩) (dap_cons (dp_var rfl) dap_nil))) ⟨f, candS f a b i, ((2 ^ i : Nat) : Int), 0, c, d, 6 * (m + N + 1) + k + 4, n, k, rfl, hf, pp i, cs i hle, ps i hle, szR_mono szR0 (by omega), hc, hd, hk, by omega, ?_⟩))) ?_
  · show _ = _
    rfl
  by_cases z : stopS f a b c d i
  · rw [if_neg (by rw [decide_eq_true z]; decide)]
    have g0 : Nat.gcd (candS f a b i).natAbs ((2 ^ i : Nat) : Int).natAbs ≠ 0 := fun w => by
      have := (Nat.gcd_eq_zero_iff.mp w).2
      have := pp i
      omega
    have gl : Nat.gcd (candS f a b i).natAbs ((2 ^ i : Nat) : Int).natAbs < 2 ^ (6 * (m + N + 1) + k + 4) := Nat.lt_of_le_of_lt (Nat.gcd_le_right _ (by have := pp i; omega)) (ps i hle)
    have hcd : ∀ x : Int, CDivX x ((Nat.gcd (candS f a b i).natAbs ((2 ^ i : Nat) : Int).natAbs : Nat) : Int) := fun x => cdiv (by omega) (nat_lt2 gl) (by omega)
    refine ds_let (dp_call (dap_cons (dp_ixT (ds := [.int (candS f a b i), .int ((2 ^ i : Nat) : Int)]) (dp_var rfl) dp_int) (dap_cons (dp_ixT (ds := [.int (candS f a b i), .int ((2 ^ i : Nat) : Int)]) (dp_var rfl) dp_int) dap_nil)) ⟨_, _, rfl, rfl⟩) ?_
    refine ds_retp (dp_tup (dap_cons (dp_div (dp_ixT (ds := [.int (candS f a b i), .int ((2 ^ i : Nat) : Int)]) (dp_var rfl) dp_int) (dp_var rfl) (hcd _)) (dap_cons (dp_div (dp_ixT (ds := [.int (candS f a b i), .int ((2 ^ i : Nat) : Int)]) (dp_var rfl) dp_int) (dp_var rfl) (hcd _)) dap_nil))) ?_
    obtain ⟨e1, e2⟩ := red_pos (t := candS f a b i) (pp i)
    rw [e1, e2]
    exact hT i hle z
  · rw [if_pos (by rw [decide_eq_false z]; rfl)]
    have hlt : i < N := by
      by_cases w : i = N
      · subst w; exact absurd hN z
      · omega
    have e1 : a * ((2 ^ (i + 1) : Nat) : Rat) + b * 0 * (f : Rat) = a * ((2 ^ (i + 1) : Nat) : Rat) := by grind
    have e2 : a * 0 + b * ((2 ^ (i + 1) : Nat) : Rat) = b * ((2 ^ (i + 1) : Nat) : Rat) := by grind
    refine ds_let (d := .int ((2 ^ (i + 1) : Nat) : Int)) (DP.is (dp_mul dp_int (dp_var rfl) (cmul (a := 2) (by decide) (ps i hle) (by omega))) (by rw [pow2_int])) ?_
    refine ds_asg (DE.of (d := eP (candS f a b (i + 1)) ((2 ^ (i + 1) : Nat) : Int)) (dp_tup (dap_cons (dp_add (dp_call (dap_cons (dp_var rfl) (dap_cons (dp_call (dap_cons (dp_var rfl) (dap_cons (dp_var rfl) (dap_cons (dp_call (dap_cons (dp_tup (dap_cons (dp_var rfl) (dap_cons dp_int dap_nil))) dap_nil) ⟨_, rfl, rfl⟩) dap_nil))) ⟨f, a, b, ((2 ^ (i + 1) : Nat) : Rat), 0, m, i + 2, k, rfl, hf, ha, hb, szR_pow _, szR_mono szR0 (by omega), hk, by omega, (by rw [e1, e2])⟩) dap_nil)) ⟨f, a * ((2 ^ (i + 1) : Nat) : Rat), b * ((2 ^ (i + 1) : Nat) : Rat), m + (i + 2), k, rfl, hf, szR_mul ha (szR_pow _), szR_mul hb (szR_pow _), by omega, rfl⟩) dp_int) (dap_cons (dp_var rfl) dap_nil))) (dg_name ?_))
    exact ⟨i + 1, rfl, hlt, by omega⟩
def c_surd_between : Call := fun ds T => ∃ (f : Nat) (a b c d : Rat) (m n k N : Nat), ds = [.int (f : Int), eQ a b, eQ c d] ∧ Fd f ∧ Sd f a b ∧ Sd f c d ∧ f < 2 ^ k ∧ SzR m a ∧ SzR m b ∧ SzR n c ∧ SzR n d ∧ 0 < k ∧ 24 * (m + N + 1) + 4 * n + 5 * k + 20 ≤ 8800 ∧ sgS f (a - c) (b - d) < 0 ∧ stopS f a b c d N ∧ ∀ i, i ≤ N → stopS f a b c d i → T (eR (Rat.divInt (candS f a b i) ((2 ^ i : Nat) : Int)))
theorem len_surd_between {ds T} (h : c_surd_between ds T) : ds.length = 3 := by obtain ⟨_, _, _, _, _, _, _, _, _, rfl, _⟩ := h; rfl
abbrev N_surd_between : List Str := ["field", "one", "other"]
theorem sc_surd_between : FnScope N_surd_between ["field", "one", "other"] (defScope s_surd_between) := ⟨rfl, rfl, rfl, by decide +kernel, rfl, by decide +kernel, by decide +kernel⟩
set_option maxHeartbeats 2000000 in
theorem ok_surd_between {Pg : Program} {w : World} {K : Fg} {mg : Str → Option Value} {base : Heap} (C : Cs K mg) (D0 : DfX K mg "surd_between" s_surd_between ["field", "one", "other"]) (h_check_two_surds : OkF Pg w K mg base "check_two_surds" 6 ["field", "one", "other"] (spP K c_check_two_surds)) (h_surd_is_less : OkF Pg w K mg base "surd_is_less" 6 ["field", "one", "other"] (spP K c_surd_is_less)) (h_fraction_between : OkF Pg w K mg base "fraction_between" 7 ["field", "one", "other"] (spP K c_fraction_between)) : OkF Pg w K mg base "surd_between" 8 ["field", "one", "other"] (spP K c_surd_between) := by
  refine okP D0 sc_surd_between (fun ds T h => len_surd_between h) fun f cdv A outer s H E hr => ⟨_, (pss_cons (ps_expr (pe_cl h_check_two_surds (hr.mono (by decide)) (pa_cons (pv 0) (pa_cons (pv 1) (pa_cons (pv 2) pa_nil)))))
      (pss_cons (ps_if (pt_not (pt_val (pe_cl h_surd_is_less (hr.mono (by decide)) (pa_cons (pv 0) (pa_cons (pv 1) (pa_cons (pv 2) pa_nil))))))
        (pss_one ps_never)
        pss_nil)
      (pss_one (ps_ret (pe_cl h_fraction_between (hr.mono (by decide)) (pa_cons (pv 0) (pa_cons (pv 1) (pa_cons (pv 2) pa_nil)))))))), fun ds T h => ?_⟩
  obtain ⟨f, a, b, c, d, m, n, k, N, rfl, hF, h1, h2, hf, ha, hb, hc, hd, hk, hm, hl, hN, hT⟩ := h
  refine ds_call0 (dp_call (dap_cons (dp_var rfl) (dap_cons (dp_var rfl) (dap_cons (dp_var rfl) dap_nil))) ⟨f, a, b, c, d, rfl, hF, h1, h2, rfl⟩) ?_
  refine ds_when (b := false) (DTP.is (dtp_not (dtp_B (dp_call (dap_cons (dp_var rfl) (dap_cons (dp_var rfl) (dap_cons (dp_var rfl) dap_nil))) (isless_of (m := m) (n := n) hf ha hb hc hd hk (by omega) rfl)))) (by rw [decide_eq_true hl]; rfl)) (fun z => nomatch z) fun _ => ?_
  exact ds_ret (de_call (DA.of (dap_cons (dp_var rfl) (dap_cons (dp_var rfl) (dap_cons (dp_var rfl) dap_nil))) ⟨f, a, b, c, d, m, n, k, N, rfl, hf, ha, hb, hc, hd, hk, hm, hN, hT⟩))

end H50
namespace H50
open PySem PySem.Spec PyProof.Rows L2 DL
/-! ### what every law has: pots, draws, fractions -/
def PotN (m : Nat) (cs : List D) : Prop := ∃ own seed n : Int, cs = [.int own, .int seed, .int n] ∧ 0 ≤ own ∧ 0 ≤ seed ∧ seed < 2 ^ 62 ∧ 0 ≤ n ∧ n ≤ (m : Int)
def c_law_pot : List D → (List D → Prop) → Prop := fun ds T => ∃ (ns : List Int) (p : Nat), ds = [.list (ns.map .int), .int (p : Int)] ∧ p < 100 ∧ ∀ cs, PotN 0 cs → T cs
theorem len_law_pot {ds T} (h : c_law_pot ds T) : ds.length = 2 := by obtain ⟨_, _, rfl, _⟩ := h; rfl
abbrev N_law_pot : List Str := ["script", "place", "cell", "own", "small"]
theorem sc_law_pot : FnScope N_law_pot ["script", "place"] (defScope s_law_pot) := ⟨rfl, rfl, rfl, by decide +kernel, rfl, by decide +kernel, by decide +kernel⟩
set_option maxHeartbeats 2000000 in
theorem ok_law_pot {Pg : Program} {w : World} {K : Fg} {mg : Str → Option Value} {base : Heap} (C : Cs K mg) (D0 : DfX K mg "_law_pot" s_law_pot ["script", "place"])  : OkF Pg w K mg base "_law_pot" 1 ["script", "place"] (spN K c_law_pot) := by
  refine okN D0 sc_law_pot (fun ds T h => len_law_pot h) fun f cdv A outer s H E hr => ⟨_, (pss_cons (ps_set (i := 2) sc_law_pot.nd rfl (.inl rfl) (pe_ifExp (pt_cmpR op_lt (pv 1) (pe_callB call_len_seq (by rfl) C.f_len (by decide +kernel) (pa_cons (pv 0) pa_nil)) (nomark _)) (pe_ix ix_list (pv 0) (pv 1) (fun _ _ => rfl)) (pe_op op_add (pe_op op_add (pe_op op_modN (pe_callB (cr_sum rfl) (by rfl) C.f_sum (by decide +kernel) (pa_cons (pe_slice sl_list (pv 0) po_none (po_some pe_int)) pa_nil)) pe_int) (pe_op op_mulW pe_int (pv 1))) pe_int)))
      (pss_cons (ps_set (i := 3) sc_law_pot.nd rfl (.inl rfl) (pe_op op_mulW (pe_op op_modN (pe_callTy call_int1 (by rfl) C.f_int (by decide +kernel) (pa_cons (pe_callB call_abs (by rfl) C.f_abs (by decide +kernel) (pa_cons (pv 2) pa_nil)) pa_nil)) (pe_op op_powX (pe_op op_powX pe_int pe_int) pe_int)) (pe_callTy call_int1 (by rfl) C.f_int (by decide +kernel) (pa_cons (pe_cmpR op_ge (pe_callB call_abs (by rfl) C.f_abs (by decide +kernel) (pa_cons (pv 2) pa_nil)) (pe_op op_powX pe_int pe_int) (nomark _)) pa_nil))))
      (pss_cons (ps_set (i := 4) sc_law_pot.nd rfl (.inl rfl) (pe_op op_modN (pe_callTy call_int1 (by rfl) C.f_int (by decide +kernel) (pa_cons (pv 2) pa_nil)) pe_int))
      (pss_one (ps_ret (pe_lst (pa_cons (pv 3) (pa_cons (pe_op op_modN (pe_callTy call_int1 (by rfl) C.f_int (by decide +kernel) (pa_cons (pe_op op_add (pe_op op_add (pe_op op_mulW (pv 4) pe_int) (pe_op op_mulW (pe_op op_mulW pe_int (pv 1)) (pv 1))) pe_int) pa_nil)) pe_int) (pa_cons pe_int pa_nil))))))))), fun ds T h => ?_⟩
  obtain ⟨ns, p, rfl, hp, hT⟩ := h
  have p7 : ((p : Nat) : Int).natAbs < 2 ^ 7 := nat_lt2 (by omega)
  have hcell : ∃ cell : Int, DP K (tIf (tTest (tOp rLtI (tVar 1) (tCB (rLen2 K) (tCons (tVar 0) tNil)))) (tOp (rIxL K) (tVar 0) (tVar 1)) (tOp rAddI (tOp rAddI (tOp rModI (tCB (rSum K) (tCons (tSl (rSlL K) (tVar 0) tNoPart (tPart (tC (.int 1)))) tNil)) (tC (.int 1000003))) (tOp rMulI (tC (.int 10761)) (tVar 1))) (tC (.int 13151)))) (initS N_law_pot [.list (ns.map .int), .int (p : Int)]) (.int cell) := by
    by_cases z : p < ns.length
    · refine ⟨ns[p], dp_if (b := true) (DTP.is (dtp_test (dp_lt (dp_var rfl) (dp_lenL (dp_var rfl)))) ?_) (fun _ => dp_ixL (dp_var rfl) (dp_var rfl) ?_) (fun z => nomatch z)⟩
      · rw [List.length_map]; exact decide_eq_true (by exact_mod_cast z)
      · rw [atI_pos (n := p) rfl (by rw [List.length_map]; exact z), List.getElem_map]
    · refine ⟨_, dp_if (b := false) (DTP.is (dtp_test (dp_lt (dp_var rfl) (dp_lenL (dp_var rfl)))) ?_) (fun z => nomatch z) (fun _ => dp_add (dp_add (dp_mod (dp_sum (DP.is (dp_sliceL (dp_var rfl) do_none (do_some dp_int)) (by rw [cutD_map]))) dp_int (by decide)) (dp_mul dp_int (dp_var rfl) (cmul (a := 40) (by decide) p7 (by decide)))) dp_int)⟩
      rw [List.length_map]; exact decide_eq_false (by intro w; exact z (by exact_mod_cast w))
  obtain ⟨cell, hcell⟩ := hcell
  refine ds_let hcell ?_
  have M0 : (0 : Int) < (10 ^ 60) ^ 5 := by decide
  obtain ⟨m1, m2⟩ := fmod_lt (i := (cell.natAbs : Int)) M0
  have ms : ((cell.natAbs : Int).fmod ((10 ^ 60) ^ 5)).natAbs < 2 ^ 1000 := lt2_of m1 (Int.lt_trans m2 (by decide))
  refine ds_let (dp_mul (dp_mod (dp_intI (dp_abs (dp_var rfl))) (dp_pow (dp_pow dp_int dp_int (cpow (b := 4) (by decide) (by decide) (by decide))) dp_int (cpow (b := 200) (by decide) (by decide) (by decide))) (by decide)) (dp_intB (dp_ge (dp_abs (dp_var rfl)) (dp_pow dp_int dp_int (cpow (b := 4) (by decide) (by decide) (by decide))))) (cmul (b := 1) ms (by split <;> decide) (by decide))) ?_
  obtain ⟨s1, s2⟩ := fmod_lt (i := cell) (j := 2305843009213693951) (by decide)
  have ss : (cell.fmod 2305843009213693951).natAbs < 2 ^ 61 := lt2_of s1 (Int.lt_of_lt_of_le s2 (by decide))
  refine ds_let (dp_mod (dp_intI (dp_var rfl)) dp_int (by decide)) ?_
  have kp : ∀ c : Int, c.natAbs < 2 ^ 40 → (c * (p : Int)).natAbs < 2 ^ 47 := fun c h => mul_lt2 h p7
  refine ds_retL (dn_lst (DA.of (dap_cons (dp_var rfl) (dap_cons (dp_mod (dp_intI (dp_add (dp_add (dp_mul (dp_var rfl) dp_int (cmul (b := 40) ss (by decide) (by decide))) (dp_mul (dp_mul dp_int (dp_var rfl) (cmul (a := 40) (by decide) p7 (by decide))) (dp_var rfl) (cmul (kp _ (by decide)) p7 (by decide)))) dp_int)) dp_int (by decide)) (dap_cons dp_int dap_nil))) ⟨by show 3 ≤ sizeLine; decide, hT _ ⟨_, _, _, rfl, ?_, ?_, ?_, by decide, by decide⟩⟩))
  · exact Int.mul_nonneg m1 (by split <;> decide)
  · exact (fmod_lt (by decide)).1
  · exact Int.lt_trans (fmod_lt (by decide)).2 (by decide)
def c_law_take : CallC := fun cs ds T => ∃ (m : Nat) (u : Int), ds = [.int u] ∧ 1 ≤ u ∧ u < 2 ^ 1000 ∧ m < 1000000 ∧ PotN m cs ∧ ∀ k es, 0 ≤ k → k < u → PotN (m + 1) es → T (.int k) es
theorem len_law_take {cs ds T} (h : c_law_take cs ds T) : ds.length + 1 = 2 := by obtain ⟨_, _, rfl, _⟩ := h; rfl
abbrev N_law_take : List Str := ["pot", "upto", "digit", "prime", "blend"]
theorem sc_law_take : FnScope N_law_take ["pot", "upto"] (defScope s_law_take) := ⟨rfl, rfl, rfl, by decide +kernel, rfl, by decide +kernel, by decide +kernel⟩
set_option maxHeartbeats 2000000 in
theorem ok_law_take {Pg : Program} {w : World} {K : Fg} {mg : Str → Option Value} {base : Heap} (C : Cs K mg) (D0 : DfX K mg "_law_take" s_law_take ["pot", "upto"])  : OkF Pg w K mg base "_law_take" 1 ["pot", "upto"] (spC K c_law_take) := by
  refine okC D0 sc_law_take (fun cs ds T h => len_law_take h) fun f cdv A outer s H E hr => ⟨_, (pss_cons (ps_if (pt_cmpR op_gt (pe_ix ix_list (pv 0) pe_int (fun _ _ => rfl)) pe_int (nomark _))
        (pss_cons (ps_set (i := 2) sc_law_take.nd rfl (.inl rfl) (pe_op op_modN (pe_callTy call_int1 (by rfl) C.f_int (by decide +kernel) (pa_cons (pe_ix ix_list (pv 0) pe_int (fun _ _ => rfl)) pa_nil)) (pv 1)))
        (pss_cons (ps_asg (pe_op op_fdivX (pe_ix ix_list (pv 0) pe_int (fun _ _ => rfl)) (pv 1)) (pg_sub (pv 0) pe_int set_list))
        (pss_one (ps_ret (pv 2)))))
        pss_nil)
      (pss_cons (ps_asg (pe_op op_add (pe_ix ix_list (pv 0) pe_int (fun _ _ => rfl)) pe_int) (pg_sub (pv 0) pe_int set_list))
      (pss_cons (ps_set (i := 3) sc_law_take.nd rfl (.inl rfl) (pe_ix ix_list (pe_lst (pa_cons pe_int (pa_cons pe_int (pa_cons pe_int (pa_cons pe_int (pa_cons pe_int pa_nil)))))) (pe_op op_modN (pe_callTy call_int1 (by rfl) C.f_int (by decide +kernel) (pa_cons (pe_ix ix_list (pv 0) pe_int (fun _ _ => rfl)) pa_nil)) pe_int) (fun _ _ => rfl)))
      (pss_cons (ps_set (i := 4) sc_law_take.nd rfl (.inl rfl) (pe_op op_modN (pe_callTy call_int1 (by rfl) C.f_int (by decide +kernel) (pa_cons (pe_op op_powX (pe_callTy call_int1 (by rfl) C.f_int (by decide +kernel) (pa_cons (pe_op op_add (pe_op op_add (pe_ix ix_list (pv 0) pe_int (fun _ _ => rfl)) (pe_op op_mulW (pe_op op_mulW pe_int (pe_ix ix_list (pv 0) pe_int (fun _ _ => rfl))) (pe_ix ix_list (pv 0) pe_int (fun _ _ => rfl)))) pe_int) pa_nil)) pe_int) pa_nil)) (pv 3)))
      (pss_cons (ps_set (i := 4) sc_law_take.nd rfl (.inl rfl) (pe_op op_modN (pe_callTy call_int1 (by rfl) C.f_int (by decide +kernel) (pa_cons (pe_op op_mulW (pv 4) (pe_op op_add (pe_op op_modN (pe_callTy call_int1 (by rfl) C.f_int (by decide +kernel) (pa_cons (pv 4) pa_nil)) pe_int) (pe_op op_mulW pe_int (pe_ix ix_list (pv 0) pe_int (fun _ _ => rfl))))) pa_nil)) pe_int))
      (pss_one (ps_ret (pe_op op_modN (pe_callTy call_int1 (by rfl) C.f_int (by decide +kernel) (pa_cons (pe_op op_fdivX (pv 4) pe_int) pa_nil)) (pv 1))))))))), fun p cs ds T h => ?_⟩
  obtain ⟨m, u, rfl, hu, hu2, hm, ⟨own, seed, n, rfl, o0, s0, s1, n0, n1⟩, hT⟩ := h
  have us : u.natAbs < 2 ^ 1000 := lt2_of (by omega) hu2
  have u0 : u ≠ 0 := by omega
  refine ds_whenq (p := 0 < own) (dtp_test (dp_gt (dp_cix rfl) dp_int)) (fun z => ?_) fun z => ?_
  · refine ds_let (dp_mod (dp_intI (dp_cix rfl)) (dp_var rfl) u0) ?_
    refine ds_seq (ds_setC rfl (dp_div (dp_cix rfl) (dp_var rfl) (cdiv u0 us (by decide))) dp_int rfl ?_)
    refine ds_retp (dp_var rfl) ⟨_, rfl, ?_⟩
    obtain ⟨f1, f2⟩ := fmod_lt (i := own) (j := u) (by omega)
    exact hT _ _ f1 f2 ⟨own.fdiv u, seed, n, rfl, Int.fdiv_nonneg o0 (by omega), s0, s1, n0, by omega⟩
  · refine ds_seq (ds_setC rfl (dp_add (dp_cix rfl) dp_int) dp_int rfl ?_)
    obtain ⟨r1, r2⟩ := fmod_lt (i := n + 1) (j := 5) (by decide)
    have ns : (n + 1).natAbs < 2 ^ 20 := lt2_of (by omega) (by omega)
    have ss : seed.natAbs < 2 ^ 62 := lt2_of s0 s1
    obtain ⟨pr, p1, p2, hpr⟩ := dp_pick (K := K) (ns := [2147483647, 2147483629, 2147483587, 2147483579, 2147483563]) (lo := 0) (hi := 2 ^ 31) (ρ := [.ce p [.int own, .int seed, .int (n + 1)], .va (.int u), .no, .no, .no]) (by decide) (dp_lst (dap_cons dp_int (dap_cons dp_int (dap_cons dp_int (dap_cons dp_int (dap_cons dp_int dap_nil)))))) (dp_mod (dp_intI (dp_cix (i := 0) (k := 2) rfl)) (dp_int (i := 5)) (by decide)) r1 r2
    refine ds_let hpr ?_
    have knn : ∀ c : Int, c.natAbs < 2 ^ 30 → (c * (n + 1)).natAbs < 2 ^ 50 := fun c h => mul_lt2 h ns
    have kn2 : ∀ c : Int, c.natAbs < 2 ^ 30 → (c * (n + 1) * (n + 1)).natAbs < 2 ^ 70 := fun c h => mul_lt2 (knn c h) ns
    have base : ∀ c e : Int, c.natAbs < 2 ^ 30 → e.natAbs < 2 ^ 30 → (seed + c * (n + 1) * (n + 1) + e).natAbs < 2 ^ 72 := fun c e h h2 => add_lt2 (add_lt2 (lt2_mono ss (by decide)) (kn2 c h)) (lt2_mono h2 (by decide))
    refine ds_let (dp_mod (dp_intI (dp_pow (dp_intI (dp_add (dp_add (dp_cix rfl) (dp_mul (dp_mul dp_int (dp_cix rfl) (cmul (a := 30) (by decide) ns (by decide))) (dp_cix rfl) (cmul (knn _ (by decide)) ns (by decide)))) dp_int)) dp_int (cpow (by decide) (base _ _ (by decide) (by decide)) (by decide)))) (dp_var rfl) (by omega)) ?_
    obtain ⟨b1, b2⟩ := fmod_lt (i := (seed + 107553 * (n + 1) * (n + 1) + 641) ^ (3 : Int).toNat) (j := pr) p1
    have bs : ((seed + 107553 * (n + 1) * (n + 1) + 641) ^ (3 : Int).toNat |>.fmod pr).natAbs < 2 ^ 31 := lt2_of b1 (Int.lt_trans b2 p2)
    have dsz : ∀ (x c e : Int), 0 < e → e < 2 ^ 30 → c.natAbs < 2 ^ 30 → (x.fmod e + c * (n + 1)).natAbs < 2 ^ 51 := fun x c e h1 h2 h3 => add_lt2 (lt2_mono (lt2_of (fmod_lt h1).1 (Int.lt_trans (fmod_lt h1).2 h2)) (by decide)) (knn c h3)
    refine ds_let (dp_mod (dp_intI (dp_mul (dp_var rfl) (dp_add (dp_mod (dp_intI (dp_var rfl)) dp_int (by decide)) (dp_mul dp_int (dp_cix rfl) (cmul (a := 30) (by decide) ns (by decide)))) (cmul bs (dsz _ _ _ (by decide) (by decide) (by decide)) (by decide)))) dp_int (by decide)) ?_
    refine ds_retp (dp_mod (dp_intI (dp_div (dp_var rfl) dp_int (cdiv (b := 40) (by decide) (by decide) (by decide)))) (dp_var rfl) u0) ⟨_, rfl, ?_⟩
    obtain ⟨f1, f2⟩ := fmod_lt (i := _) (j := u) (by omega)
    exact hT _ _ f1 f2 ⟨own, seed, n + 1, rfl, o0, s0, s1, by omega, by omega⟩
def c_law_of : CallC := fun cs ds T => ∃ (m : Nat) (xs : List D), ds = [.list xs] ∧ 0 < xs.length ∧ xs.length < 1000000 ∧ m < 1000000 ∧ PotN m cs ∧ ∀ x es, x ∈ xs → PotN (m + 1) es → T x es
theorem len_law_of {cs ds T} (h : c_law_of cs ds T) : ds.length + 1 = 2 := by obtain ⟨_, _, rfl, _⟩ := h; rfl
abbrev N_law_of : List Str := ["pot", "some"]
theorem sc_law_of : FnScope N_law_of ["pot", "some"] (defScope s_law_of) := ⟨rfl, rfl, rfl, by decide +kernel, rfl, by decide +kernel, by decide +kernel⟩
set_option maxHeartbeats 2000000 in
theorem ok_law_of {Pg : Program} {w : World} {K : Fg} {mg : Str → Option Value} {base : Heap} (C : Cs K mg) (D0 : DfX K mg "_law_of" s_law_of ["pot", "some"]) (h__law_take : OkF Pg w K mg base "_law_take" 1 ["pot", "upto"] (spC K c_law_take)) : OkF Pg w K mg base "_law_of" 2 ["pot", "some"] (spC K c_law_of) := by
  refine okC D0 sc_law_of (fun cs ds T h => len_law_of h) fun f cdv A outer s H E hr => ⟨_, (pss_one (ps_ret (pe_ix ix_list (pv 1) (pe_cl h__law_take (hr.mono (by decide)) (pa_cons (pv 0) (pa_cons (pe_callB call_len_seq (by rfl) C.f_len (by decide +kernel) (pa_cons (pv 1) pa_nil)) pa_nil))) (fun _ _ => rfl)))), fun p cs ds T h => ?_⟩
  obtain ⟨m, xs, rfl, h0, h1, hm, hp, hT⟩ := h
  refine ds_ret (de_op (de_var rfl (de_callC rfl (DA.of (dap_cons (dp_lenL (dp_var rfl)) dap_nil) ⟨cs, rfl, m, _, rfl, by omega, ?_, hm, hp, fun k es k0 k1 hes => ?_⟩))))
  · exact Int.lt_trans (show (xs.length : Int) < 1000000 by omega) (by decide)
  · have hk : k.toNat < xs.length := by omega
    exact r2_ixL (atI_pos (n := k.toNat) (by omega) hk) ⟨es, rfl, hT _ es (List.getElem_mem hk) hes⟩
def c_law_cells : Call := fun ds T => ∃ (xs : List D) (m : Nat), ds = [.list xs, .int (m : Int)] ∧ m ≤ 100 ∧ ∀ n : Nat, n ≤ 100 → T (.list ((List.range n).map fun i : Nat => .int (i : Int)))
theorem len_law_cells {ds T} (h : c_law_cells ds T) : ds.length = 2 := by obtain ⟨_, _, rfl, _⟩ := h; rfl
abbrev N_law_cells : List Str := ["script", "most"]
theorem sc_law_cells : FnScope N_law_cells ["script", "most"] (defScope s_law_cells) := ⟨rfl, rfl, rfl, by decide +kernel, rfl, by decide +kernel, by decide +kernel⟩
set_option maxHeartbeats 2000000 in
theorem ok_law_cells {Pg : Program} {w : World} {K : Fg} {mg : Str → Option Value} {base : Heap} (C : Cs K mg) (D0 : DfX K mg "_law_cells" s_law_cells ["script", "most"])  : OkF Pg w K mg base "_law_cells" 1 ["script", "most"] (spP K c_law_cells) := by
  refine okP D0 sc_law_cells (fun ds T h => len_law_cells h) fun f cdv A outer s H E hr => ⟨_, (pss_one (ps_ret (pe_listRg rfl (by rfl) C.f_list (prg_1 (by rfl) C.f_range (pe_callB (call_max2 rfl) (by rfl) C.f_max (by decide +kernel) (pa_cons pe_int (pa_cons (pe_callB (call_min2 rfl) (by rfl) C.f_min (by decide +kernel) (pa_cons (pv 1) (pa_cons (pe_callB call_len_seq (by rfl) C.f_len (by decide +kernel) (pa_cons (pv 0) pa_nil)) pa_nil))) pa_nil))))))), fun ds T h => ?_⟩
  obtain ⟨xs, m, rfl, hm, hT⟩ := h
  refine ds_retp (dp_listRg1 (dp_max2 dp_int (dp_min2 (dp_var rfl) (dp_lenL (dp_var rfl)))) ?_) (hT _ ?_)
  · have : ∀ a : Int, a ≤ 100 → (-1000 ≤ a) → RgOk 0 a := fun a h1 h2 => ⟨by decide, by decide, by omega, by omega, by omega⟩
    apply this <;> (split <;> split) <;> omega
  · split <;> split <;> omega
/-- the greatest common divisor by hand -/
theorem euc_step {x y : Nat} (h : y ≤ x) (hy : 0 < y) : 2 * (y * (x % y)) ≤ x * y := by
  have h1 := Nat.mod_lt x hy
  have h2 : x % y ≤ x - y := by rw [Nat.mod_eq_sub_mod h]; exact Nat.mod_le _ _
  have h3 : 2 * (x % y) ≤ x := by omega
  calc 2 * (y * (x % y)) = y * (2 * (x % y)) := by grind
    _ ≤ y * x := Nat.mul_le_mul_left _ h3
    _ = x * y := Nat.mul_comm _ _
def c_law_reduced : Call := fun ds T => ∃ (t l : Int) (m : Nat), ds = [.int t, .int l] ∧ l ≠ 0 ∧ t.natAbs < 2 ^ m ∧ l.natAbs < 2 ^ m ∧ m ≤ 4400 ∧ T (eR (Rat.divInt t l))
theorem len_law_reduced {ds T} (h : c_law_reduced ds T) : ds.length = 2 := by obtain ⟨_, _, _, rfl, _⟩ := h; rfl
abbrev N_law_reduced : List Str := ["top", "low", "one", "other", "lap", "factor"]
theorem sc_law_reduced : FnScope N_law_reduced ["top", "low"] (defScope s_law_reduced) := ⟨rfl, rfl, rfl, by decide +kernel, rfl, by decide +kernel, by decide +kernel⟩
set_option maxHeartbeats 2000000 in
theorem ok_law_reduced {Pg : Program} {w : World} {K : Fg} {mg : Str → Option Value} {base : Heap} (C : Cs K mg) (D0 : DfX K mg "_law_reduced" s_law_reduced ["top", "low"])  : OkF Pg w K mg base "_law_reduced" 1 ["top", "low"] (spP K c_law_reduced) := by
  refine okP D0 sc_law_reduced (fun ds T h => len_law_reduced h) fun f cdv A outer s H E hr => ⟨_, (pss_cons (ps_par (i := 2) (j := 3) rfl sc_law_reduced.nd rfl rfl (by decide) rfl rfl (pa_cons (pe_callB call_abs (by rfl) C.f_abs (by decide +kernel) (pa_cons (pv 0) pa_nil)) (pa_cons (pe_callB call_abs (by rfl) C.f_abs (by decide +kernel) (pa_cons (pv 1) pa_nil)) pa_nil)) (by rfl))
      (pss_cons (ps_for PassesOwn.never rfl (pi_range1 (by rfl) C.f_range (pa_cons pe_int pa_nil)) (pg_name (i := 4) sc_law_reduced.nd rfl (.inl rfl))
        (pss_cons (ps_if (pt_cmpR op_eq (pv 3) pe_int (nomark _))
          (pss_one ps_break)
          pss_nil)
        (pss_one (ps_par (i := 2) (j := 3) rfl sc_law_reduced.nd rfl rfl (by decide) rfl rfl (pa_cons (pv 3) (pa_cons (pe_op op_modN (pv 2) (pv 3)) pa_nil)) (by rfl)))))
      (pss_cons (ps_set (i := 5) sc_law_reduced.nd rfl (.inl rfl) (pe_ifExp (pt_cmpR op_gt (pv 1) pe_int (nomark _)) (pv 2) (pe_un un_neg (pv 2))))
      (pss_one (ps_ret (pe_tup (pa_cons (pe_callTy call_int1 (by rfl) C.f_int (by decide +kernel) (pa_cons (pe_op op_fdivX (pv 0) (pv 5)) pa_nil)) (pa_cons (pe_callTy call_int1 (by rfl) C.f_int (by decide +kernel) (pa_cons (pe_op op_fdivX (pv 1) (pv 5)) pa_nil)) pa_nil)))))))), fun ds T h => ?_⟩
  obtain ⟨t, l, m, rfl, hl, ht, hb, hm, hT⟩ := h
  have hg : Nat.gcd t.natAbs l.natAbs ≠ 0 := fun z => hl (Int.natAbs_eq_zero.mp (Nat.gcd_eq_zero_iff.mp z).2)
  have hg2 : Nat.gcd t.natAbs l.natAbs < 2 ^ m := Nat.lt_of_le_of_lt (Nat.gcd_le_right _ (Int.natAbs_pos.mpr hl)) hb
  have hTL : t.natAbs * l.natAbs < 2 ^ (m + m) := nat_two_mul ht hb
  refine ds_parp (dap_cons (dp_abs (dp_var rfl)) (dap_cons (dp_abs (dp_var rfl)) dap_nil)) ?_
  refine ds_forq (fun ρ' => ∃ (s s2 : Sl) (y : Int), ρ' = [.va (.int t), .va (.int l), .va (.int ((Nat.gcd t.natAbs l.natAbs : Nat) : Int)), .va (.int y), s, s2]) (ds_for (fun _ i ρ' => ∃ (s : Sl) (x y : Nat), ρ' = [.va (.int t), .va (.int l), .va (.int (x : Int)), .va (.int (y : Int)), s, .no] ∧ Nat.gcd x y = Nat.gcd t.natAbs l.natAbs ∧ (0 < i → y < x ∧ 2 ^ (i - 1) * (x * y) ≤ t.natAbs * l.natAbs) ∧ (i = 0 → x = t.natAbs ∧ y = l.natAbs)) (di_rng1 (DA.of (dap_cons dp_int dap_nil) ⟨_, rfl, by decide, by decide, ⟨.no, t.natAbs, l.natAbs, rfl, rfl, fun z => (Nat.lt_irrefl 0 z).elim, fun _ => ⟨rfl, rfl⟩⟩, ?_, ?_⟩))) ?_
  · rintro i d ρ2 hd ⟨s, x, y, rfl, e1, e2, e3⟩
    refine dg_name ?_
    refine ds_whenq (p := y = 0) (DTP.is (dtp_test (dp_eqI (dp_var rfl) dp_int)) (decide_eq_decide.mpr (by omega))) (fun z => ?_) fun z => ?_
    · subst z
      refine ds_brk ⟨.va d, .no, ((0 : Nat) : Int), ?_⟩
      rw [Nat.gcd_zero_right] at e1
      rw [← e1]; rfl
    · refine ds_par (DA.of (dap_cons (dp_var rfl) (dap_cons (dp_mod (dp_var rfl) (dp_var rfl) (by omega)) dap_nil)) ⟨_, _, rfl, ?_⟩)
      refine ⟨_, y, x % y, by rw [fmod_nat]; rfl, ?_, fun _ => ⟨Nat.mod_lt _ (by omega), ?_⟩, fun w => nomatch w⟩
      · rw [← e1, Nat.gcd_comm x y, Nat.gcd_rec y x, Nat.gcd_comm]
      · cases i with
        | zero =>
          obtain ⟨rfl, rfl⟩ := e3 rfl
          have h1 := Nat.mod_le t.natAbs l.natAbs
          calc 2 ^ 0 * (l.natAbs * (t.natAbs % l.natAbs)) = l.natAbs * (t.natAbs % l.natAbs) := by rw [Nat.pow_zero, Nat.one_mul]
            _ ≤ l.natAbs * t.natAbs := Nat.mul_le_mul_left _ h1
            _ = _ := Nat.mul_comm _ _
        | succ i =>
          obtain ⟨h1, h2⟩ := e2 (Nat.succ_pos i)
          have h3 := euc_step (Nat.le_of_lt h1) (Nat.pos_of_ne_zero z)
          refine Nat.le_trans ?_ h2
          show 2 ^ (i + 1) * (y * (x % y)) ≤ 2 ^ i * (x * y)
          rw [Nat.pow_succ]
          calc 2 ^ i * 2 * (y * (x % y)) = 2 ^ i * (2 * (y * (x % y))) := by grind
            _ ≤ _ := Nat.mul_le_mul_left _ h3
  · rintro ρ2 ⟨s, x, y, rfl, e1, e2, e3⟩
    rw [List.length_map, List.length_range] at e2
    obtain ⟨h1, h2⟩ := e2 (by decide)
    have h4 : 2 ^ (m + m) ≤ 2 ^ ((9000 : Int).toNat - 1) := Nat.pow_le_pow_right (by decide) (by show m + m ≤ 8999; omega)
    have z : x * y = 0 := by
      apply Classical.byContradiction
      intro w
      have := Nat.le_mul_of_pos_right (2 ^ ((9000 : Int).toNat - 1)) (Nat.pos_of_ne_zero w)
      omega
    have y0 : y = 0 := by
      rcases Nat.mul_eq_zero.mp z with w | w <;> omega
    subst y0
    refine ⟨s, .no, ((0 : Nat) : Int), ?_⟩
    rw [Nat.gcd_zero_right] at e1
    rw [← e1]
  · rintro ρ' ⟨s, s2, y, rfl⟩
    refine ds_let (dp_ite (p := 0 < l) (dtp_test (dp_gt (dp_var rfl) dp_int)) (fun _ => dp_var rfl) (fun _ => dp_neg (dp_var rfl))) ?_
    by_cases p : 0 < l
    · rw [if_pos p]
      obtain ⟨e1, e2⟩ := red_pos (t := t) p
      have hc : ∀ i : Int, CDivX i ((Nat.gcd t.natAbs l.natAbs : Nat) : Int) := fun i => cdiv (by omega) (nat_lt2 hg2) (by omega)
      refine ds_retp (dp_tup (dap_cons (dp_intI (dp_div (dp_var rfl) (dp_var rfl) (hc _))) (dap_cons (dp_intI (dp_div (dp_var rfl) (dp_var rfl) (hc _))) dap_nil))) ?_
      rw [e1, e2]; exact hT
    · rw [if_neg p]
      obtain ⟨e1, e2⟩ := red_neg (t := t) (l := l) (by omega)
      rw [Int.zero_sub] at e1 e2
      have hc : ∀ i : Int, CDivX i (-((Nat.gcd t.natAbs l.natAbs : Nat) : Int)) := fun i => cdiv (b := m) (by omega) (by omega) (by omega)
      refine ds_retp (dp_tup (dap_cons (dp_intI (dp_div (dp_var rfl) (dp_var rfl) (hc _))) (dap_cons (dp_intI (dp_div (dp_var rfl) (dp_var rfl) (hc _))) dap_nil))) ?_
      rw [e1, e2]; exact hT
def c_law_sum : Call := fun ds T => ∃ (a b : Rat) (m n : Nat), ds = [eR a, eR b] ∧ SzR m a ∧ SzR n b ∧ m + n ≤ 4300 ∧ T (eR (a + b))
def c_law_times : Call := fun ds T => ∃ (a b : Rat) (m n : Nat), ds = [eR a, eR b] ∧ SzR m a ∧ SzR n b ∧ m + n ≤ 4300 ∧ T (eR (a * b))
def c_law_parted : Call := fun ds T => ∃ (a b : Rat) (m n : Nat), ds = [eR a, eR b] ∧ b ≠ 0 ∧ SzR m a ∧ SzR n b ∧ m + n ≤ 4300 ∧ T (eR (a / b))
def c_law_minus : Call := fun ds T => ∃ (a : Rat), ds = [eR a] ∧ T (eR (-a))
theorem len_law_sum {ds T} (h : c_law_sum ds T) : ds.length = 2 := by obtain ⟨_, _, _, _, rfl, _⟩ := h; rfl
theorem len_law_times {ds T} (h : c_law_times ds T) : ds.length = 2 := by obtain ⟨_, _, _, _, rfl, _⟩ := h; rfl
theorem len_law_parted {ds T} (h : c_law_parted ds T) : ds.length = 2 := by obtain ⟨_, _, _, _, rfl, _⟩ := h; rfl
theorem len_law_minus {ds T} (h : c_law_minus ds T) : ds.length = 1 := by obtain ⟨_, rfl, _⟩ := h; rfl
abbrev N_law_sum : List Str := ["one", "other"]
theorem sc_law_sum : FnScope N_law_sum ["one", "other"] (defScope s_law_sum) := ⟨rfl, rfl, rfl, by decide +kernel, rfl, by decide +kernel, by decide +kernel⟩
set_option maxHeartbeats 2000000 in
theorem ok_law_sum {Pg : Program} {w : World} {K : Fg} {mg : Str → Option Value} {base : Heap} (C : Cs K mg) (D0 : DfX K mg "_law_sum" s_law_sum ["one", "other"]) (h__law_reduced : OkF Pg w K mg base "_law_reduced" 1 ["top", "low"] (spP K c_law_reduced)) : OkF Pg w K mg base "_law_sum" 2 ["one", "other"] (spP K c_law_sum) := by
  refine okP D0 sc_law_sum (fun ds T h => len_law_sum h) fun f cdv A outer s H E hr => ⟨_, (pss_one (ps_ret (pe_cl h__law_reduced (hr.mono (by decide)) (pa_cons (pe_op op_add (pe_op op_mulW (pe_ix ix_tup (pv 0) pe_int (fun _ _ => rfl)) (pe_ix ix_tup (pv 1) pe_int (fun _ _ => rfl))) (pe_op op_mulW (pe_ix ix_tup (pv 1) pe_int (fun _ _ => rfl)) (pe_ix ix_tup (pv 0) pe_int (fun _ _ => rfl)))) (pa_cons (pe_op op_mulW (pe_ix ix_tup (pv 0) pe_int (fun _ _ => rfl)) (pe_ix ix_tup (pv 1) pe_int (fun _ _ => rfl))) pa_nil))))), fun ds T h => ?_⟩
  obtain ⟨a, b, m, n, rfl, ha, hb, hmn, hT⟩ := h
  obtain ⟨z1, z2⟩ := mden ha hb
  refine ds_ret (de_call (DA.of (dap_cons (dp_add (dp_mul (dp_ixT (dp_var rfl) dp_int) (dp_ixT (dp_var rfl) dp_int) (cmul ha.1 (szR_den hb) (by omega))) (dp_mul (dp_ixT (dp_var rfl) dp_int) (dp_ixT (dp_var rfl) dp_int) (cmul hb.1 (szR_den ha) (by omega)))) (dap_cons (dp_mul (dp_ixT (dp_var rfl) dp_int) (dp_ixT (dp_var rfl) dp_int) (cmul (szR_den ha) (szR_den hb) (by omega))) dap_nil)) ⟨_, _, m + n + 1, rfl, z1, add_lt2 (mul_lt2 ha.1 (szR_den hb)) (by rw [Nat.add_comm]; exact mul_lt2 hb.1 (szR_den ha)), lt2_mono z2 (by omega), by omega, ?_⟩))
  rw [addE]; exact hT
abbrev N_law_times : List Str := ["one", "other"]
theorem sc_law_times : FnScope N_law_times ["one", "other"] (defScope s_law_times) := ⟨rfl, rfl, rfl, by decide +kernel, rfl, by decide +kernel, by decide +kernel⟩
set_option maxHeartbeats 2000000 in
theorem ok_law_times {Pg : Program} {w : World} {K : Fg} {mg : Str → Option Value} {base : Heap} (C : Cs K mg) (D0 : DfX K mg "_law_times" s_law_times ["one", "other"]) (h__law_reduced : OkF Pg w K mg base "_law_reduced" 1 ["top", "low"] (spP K c_law_reduced)) : OkF Pg w K mg base "_law_times" 2 ["one", "other"] (spP K c_law_times) := by
  refine okP D0 sc_law_times (fun ds T h => len_law_times h) fun f cdv A outer s H E hr => ⟨_, (pss_one (ps_ret (pe_cl h__law_reduced (hr.mono (by decide)) (pa_cons (pe_op op_mulW (pe_ix ix_tup (pv 0) pe_int (fun _ _ => rfl)) (pe_ix ix_tup (pv 1) pe_int (fun _ _ => rfl))) (pa_cons (pe_op op_mulW (pe_ix ix_tup (pv 0) pe_int (fun _ _ => rfl)) (pe_ix ix_tup (pv 1) pe_int (fun _ _ => rfl))) pa_nil))))), fun ds T h => ?_⟩
  obtain ⟨a, b, m, n, rfl, ha, hb, hmn, hT⟩ := h
  obtain ⟨z1, z2⟩ := mden ha hb
  refine ds_ret (de_call (DA.of (dap_cons (dp_mul (dp_ixT (dp_var rfl) dp_int) (dp_ixT (dp_var rfl) dp_int) (cmul ha.1 hb.1 (by omega))) (dap_cons (dp_mul (dp_ixT (dp_var rfl) dp_int) (dp_ixT (dp_var rfl) dp_int) (cmul (szR_den ha) (szR_den hb) (by omega))) dap_nil)) ⟨_, _, m + n, rfl, z1, mul_lt2 ha.1 hb.1, z2, by omega, ?_⟩))
  rw [mulE]; exact hT
abbrev N_law_minus : List Str := ["one"]
theorem sc_law_minus : FnScope N_law_minus ["one"] (defScope s_law_minus) := ⟨rfl, rfl, rfl, by decide +kernel, rfl, by decide +kernel, by decide +kernel⟩
set_option maxHeartbeats 2000000 in
theorem ok_law_minus {Pg : Program} {w : World} {K : Fg} {mg : Str → Option Value} {base : Heap} (C : Cs K mg) (D0 : DfX K mg "_law_minus" s_law_minus ["one"])  : OkF Pg w K mg base "_law_minus" 1 ["one"] (spP K c_law_minus) := by
  refine okP D0 sc_law_minus (fun ds T h => len_law_minus h) fun f cdv A outer s H E hr => ⟨_, (pss_one (ps_ret (pe_tup (pa_cons (pe_un un_neg (pe_ix ix_tup (pv 0) pe_int (fun _ _ => rfl))) (pa_cons (pe_ix ix_tup (pv 0) pe_int (fun _ _ => rfl)) pa_nil))))), fun ds T h => ?_⟩
  obtain ⟨a, rfl, hT⟩ := h
  refine ds_retp (dp_tup (dap_cons (dp_neg (dp_ixT (dp_var rfl) dp_int)) (dap_cons (dp_ixT (dp_var rfl) dp_int) dap_nil))) ?_
  exact hT
abbrev N_law_parted : List Str := ["one", "other"]
theorem sc_law_parted : FnScope N_law_parted ["one", "other"] (defScope s_law_parted) := ⟨rfl, rfl, rfl, by decide +kernel, rfl, by decide +kernel, by decide +kernel⟩
set_option maxHeartbeats 2000000 in
theorem ok_law_parted {Pg : Program} {w : World} {K : Fg} {mg : Str → Option Value} {base : Heap} (C : Cs K mg) (D0 : DfX K mg "_law_parted" s_law_parted ["one", "other"]) (h__law_reduced : OkF Pg w K mg base "_law_reduced" 1 ["top", "low"] (spP K c_law_reduced)) : OkF Pg w K mg base "_law_parted" 2 ["one", "other"] (spP K c_law_parted) := by
  refine okP D0 sc_law_parted (fun ds T h => len_law_parted h) fun f cdv A outer s H E hr => ⟨_, (pss_one (ps_ret (pe_cl h__law_reduced (hr.mono (by decide)) (pa_cons (pe_op op_mulW (pe_ix ix_tup (pv 0) pe_int (fun _ _ => rfl)) (pe_ix ix_tup (pv 1) pe_int (fun _ _ => rfl))) (pa_cons (pe_op op_mulW (pe_ix ix_tup (pv 0) pe_int (fun _ _ => rfl)) (pe_ix ix_tup (pv 1) pe_int (fun _ _ => rfl))) pa_nil))))), fun ds T h => ?_⟩
  obtain ⟨a, b, m, n, rfl, b0, ha, hb, hmn, hT⟩ := h
  have z1 : (a.den : Int) * b.num ≠ 0 := Int.mul_ne_zero (by have := den_pos' a; omega) fun z => b0 (Rat.num_eq_zero.mp z)
  refine ds_ret (de_call (DA.of (dap_cons (dp_mul (dp_ixT (dp_var rfl) dp_int) (dp_ixT (dp_var rfl) dp_int) (cmul ha.1 (szR_den hb) (by omega))) (dap_cons (dp_mul (dp_ixT (dp_var rfl) dp_int) (dp_ixT (dp_var rfl) dp_int) (cmul (szR_den ha) hb.1 (by omega))) dap_nil)) ⟨_, _, m + n, rfl, z1, mul_lt2 ha.1 (szR_den hb), mul_lt2 (szR_den ha) hb.1, by omega, ?_⟩))
  rw [divE]; exact hT
theorem isqrt_uniq {n r : Nat} (h1 : r * r ≤ n) (h2 : n < (r + 1) * (r + 1)) : Float64.isqrt n = r := by
  obtain ⟨s1, s2⟩ := Float64.isqrt_spec n
  have a : ¬ Float64.isqrt n < r := fun z => by
    have := Nat.mul_le_mul (Nat.succ_le_of_lt z) (Nat.succ_le_of_lt z)
    simp only [Nat.succ_eq_add_one] at this
    omega
  have b : ¬ r < Float64.isqrt n := fun z => by
    have := Nat.mul_le_mul (Nat.succ_le_of_lt z) (Nat.succ_le_of_lt z)
    simp only [Nat.succ_eq_add_one] at this
    omega
  omega
def c_law_floor_root : Call := fun ds T => ∃ n : Nat, ds = [.int (n : Int)] ∧ n < 2 ^ 400 ∧ T (.int ((Float64.isqrt n : Nat) : Int))
theorem len_law_floor_root {ds T} (h : c_law_floor_root ds T) : ds.length = 1 := by obtain ⟨_, rfl, _⟩ := h; rfl
abbrev N_law_floor_root : List Str := ["number", "low", "high", "lap", "middle"]
theorem sc_law_floor_root : FnScope N_law_floor_root ["number"] (defScope s_law_floor_root) := ⟨rfl, rfl, rfl, by decide +kernel, rfl, by decide +kernel, by decide +kernel⟩
set_option maxHeartbeats 2000000 in
theorem ok_law_floor_root {Pg : Program} {w : World} {K : Fg} {mg : Str → Option Value} {base : Heap} (C : Cs K mg) (D0 : DfX K mg "_law_floor_root" s_law_floor_root ["number"])  : OkF Pg w K mg base "_law_floor_root" 1 ["number"] (spP K c_law_floor_root) := by
  refine okP D0 sc_law_floor_root (fun ds T h => len_law_floor_root h) fun f cdv A outer s H E hr => ⟨_, (pss_cons (ps_par (i := 1) (j := 2) rfl sc_law_floor_root.nd rfl rfl (by decide) rfl rfl (pa_cons pe_int (pa_cons (pe_op op_add (pv 0) pe_int) pa_nil)) (by rfl))
      (pss_cons (ps_for PassesOwn.never rfl (pi_range1 (by rfl) C.f_range (pa_cons pe_int pa_nil)) (pg_name (i := 3) sc_law_floor_root.nd rfl (.inl rfl))
        (pss_cons (ps_set (i := 4) sc_law_floor_root.nd rfl (.inl rfl) (pe_op op_fdivX (pe_op op_add (pv 1) (pv 2)) pe_int))
        (pss_one (ps_if (pt_cmpR op_gt (pe_op op_sub (pv 2) (pv 1)) pe_int (nomark _))
          (pss_one (ps_asg (pe_ifExp (pt_cmpR op_le (pe_op op_mulW (pv 4) (pv 4)) (pv 0) (nomark _)) (pe_tup (pa_cons (pv 4) (pa_cons (pv 2) pa_nil))) (pe_tup (pa_cons (pv 1) (pa_cons (pv 4) pa_nil)))) (pg_tup rfl (pgs_cons (pg_name (i := 1) sc_law_floor_root.nd rfl (.inl rfl)) (pgs_cons (pg_name (i := 2) sc_law_floor_root.nd rfl (.inl rfl)) pgs_nil)))))
          pss_nil))))
      (pss_one (ps_ret (pv 1))))), fun ds T h => ?_⟩
  obtain ⟨n, rfl, hn, hT⟩ := h
  refine ds_parp (d := .int ((0 : Nat) : Int)) (e := .int ((n + 1 : Nat) : Int)) (dap_cons dp_int (dap_cons (DP.is (dp_add (dp_var rfl) dp_int) rfl) dap_nil)) ?_
  refine ds_forq (fun ρ' => ∃ s s2 s3 : Sl, ρ' = [.va (.int (n : Int)), .va (.int ((Float64.isqrt n : Nat) : Int)), s, s2, s3]) (ds_for (fun _ i ρ' => ∃ (s s2 : Sl) (x y : Nat), ρ' = [.va (.int (n : Int)), .va (.int (x : Int)), .va (.int (y : Int)), s, s2] ∧ x * x ≤ n ∧ n < y * y ∧ x < y ∧ 2 ^ i * (y - x - 1) ≤ n ∧ y ≤ n + 1) (di_rng1 (DA.of (dap_cons dp_int dap_nil) ⟨_, rfl, by decide, by decide, ⟨.no, .no, 0, n + 1, rfl, Nat.zero_le _, ?_, Nat.succ_pos n, ?_, Nat.le_refl _⟩, ?_, ?_⟩))) ?_
  · have : n + 1 ≤ (n + 1) * (n + 1) := Nat.le_mul_of_pos_left _ (Nat.succ_pos n)
    omega
  · rw [Nat.pow_zero, Nat.one_mul]; omega
  · rintro i d ρ2 hd ⟨s, s2, x, y, rfl, e1, e2, e3, e4, yb⟩
    refine dg_name ?_
    have hxy : ((x : Nat) : Int) + ((y : Nat) : Int) = ((x + y : Nat) : Int) := (Int.natCast_add x y).symm
    have hmid : (((x : Nat) : Int) + ((y : Nat) : Int)).fdiv 2 = (((x + y) / 2 : Nat) : Int) := by rw [hxy]; exact fdiv_nat (x + y) 2
    have md : (((x + y) / 2 : Nat) : Int).natAbs < 2 ^ 401 := nat_lt2 (by
      have h2 : 2 ^ 401 = 2 * 2 ^ 400 := by rw [Nat.pow_succ, Nat.mul_comm]
      have h3 : (x + y) / 2 ≤ n + 1 := by omega
      omega)
    refine ds_let (DP.is (dp_div (dp_add (dp_var rfl) (dp_var rfl)) dp_int (cdiv (b := 2) (by decide) (by decide) (by decide))) (by rw [hmid])) ?_
    refine ds_ifq (p := x + 1 < y) (DTP.is (dtp_test (dp_gt (dp_sub (dp_var rfl) (dp_var rfl)) dp_int)) (decide_eq_decide.mpr (by omega))) (fun z => ?_) fun z => ?_
    · have hm1 : x < (x + y) / 2 := by omega
      have hm2 : (x + y) / 2 < y := by omega
      have hp : ∀ a b : Nat, 2 * (b - a - 1) ≤ y - x - 1 → 2 ^ (i + 1) * (b - a - 1) ≤ n := fun a b h => by
        rw [Nat.pow_succ]
        refine Nat.le_trans ?_ e4
        rw [Nat.mul_assoc]
        exact Nat.mul_le_mul_left _ h
      refine ds_asg (DE.of (dp_ite (p := (x + y) / 2 * ((x + y) / 2) ≤ n) (DTP.is (dtp_test (dp_le (dp_mul (dp_var rfl) (dp_var rfl) (cmul md md (by decide))) (dp_var rfl))) (decide_eq_decide.mpr (by
          rw [← Int.natCast_mul]; omega))) (fun _ => dp_tup (dap_cons (dp_var rfl) (dap_cons (dp_var rfl) dap_nil))) (fun _ => dp_tup (dap_cons (dp_var rfl) (dap_cons (dp_var rfl) dap_nil)))) ?_)
      by_cases q : (x + y) / 2 * ((x + y) / 2) ≤ n
      · rw [if_pos q]
        refine dg_tup (dgs_cons (dg_name (dgs_cons (dg_name (dgs_nil ?_))))) rfl
        exact ⟨_, _, (x + y) / 2, y, rfl, q, e2, hm2, hp _ _ (by omega), yb⟩
      · rw [if_neg q]
        refine dg_tup (dgs_cons (dg_name (dgs_cons (dg_name (dgs_nil ?_))))) rfl
        exact ⟨_, _, x, (x + y) / 2, rfl, e1, by omega, hm1, hp _ _ (by omega), by omega⟩
    · have hyx : y - x - 1 = 0 := by omega
      exact ds_next ⟨_, _, x, y, rfl, e1, e2, e3, by rw [hyx, Nat.mul_zero]; exact Nat.zero_le _, yb⟩
  · rintro ρ2 ⟨s, s2, x, y, rfl, e1, e2, e3, e4, yb⟩
    rw [List.length_map, List.length_range] at e4
    have z : y = x + 1 := by
      apply Classical.byContradiction
      intro w
      have : 1 ≤ y - x - 1 := by omega
      have h5 := Nat.mul_le_mul_left (2 ^ (400 : Int).toNat) this
      have h6 : (2 : Nat) ^ (400 : Int).toNat = 2 ^ 400 := rfl
      omega
    subst z
    exact ⟨_, _, _, by rw [isqrt_uniq e1 e2]⟩
  · rintro ρ' ⟨s, s2, s3, rfl⟩
    exact ds_retp (dp_var rfl) hT

end H50
namespace H50
open PySem PySem.Spec PyProof.Rows L2 DL
/-! ### numbers of a field, plainly -/
open DL.QS
theorem den_num (q : Rat) : q * (q.den : Rat) = (q.num : Rat) := by
  have h := Rat.mkRat_self q
  have h1 := Rat.divInt_eq_div q.num q.den
  rw [Rat.num_divInt_den] at h1
  have h2 : ((q.den : Int) : Rat) ≠ 0 := by
    have := q.den_pos
    intro z
    have : (q.den : Int) = 0 := by exact_mod_cast z
    omega
  have h3 : ((q.den : Int) : Rat) = (q.den : Rat) := rfl
  rw [h3] at h1 h2
  have e := Rat.mul_inv_cancel _ h2
  rw [Rat.div_def] at h1
  grind
theorem nsq_of {f : Nat} (h1 : 1 ≤ f) (h : ∀ x : Nat, x ≤ f → x * x ≠ f) : NSq (f : Rat) where
  pos := by exact_mod_cast h1
  ns r e := by
    have hd := den_num r
    have e2 : ((r.num * r.num : Int) : Rat) = ((f * (r.den * r.den) : Nat) : Rat) := by
      rw [Rat.intCast_mul, ← hd, Rat.natCast_mul, Rat.natCast_mul]
      grind
    have e3 : r.num * r.num = ((f * (r.den * r.den) : Nat) : Int) := by exact_mod_cast e2
    have e4 : r.num.natAbs * r.num.natAbs = f * (r.den * r.den) := by
      have := congrArg Int.natAbs e3
      rw [Int.natAbs_mul, Int.natAbs_natCast] at this
      exact this
    have dv : r.den ∣ r.num.natAbs * r.num.natAbs := ⟨f * r.den, by rw [e4]; grind⟩
    have dv2 : r.den ∣ r.num.natAbs := (Nat.Coprime.symm r.reduced).dvd_of_dvd_mul_right dv
    have d1 : r.den = 1 := by
      have := Nat.Coprime.eq_one_of_dvd (Nat.Coprime.symm r.reduced) dv2
      exact this
    rw [d1, Nat.one_mul, Nat.mul_one] at e4
    refine h r.num.natAbs ?_ e4
    rw [← e4]
    by_cases z : r.num.natAbs = 0
    · omega
    · exact Nat.le_mul_of_pos_left _ (Nat.pos_of_ne_zero z)
section
variable {f : Nat}
def c (a : Rat) : QS (f : Rat) := ⟨a, 0⟩
theorem c_add (a b : Rat) : (c (a + b) : QS (f : Rat)) = c a + c b := by apply ext <;> simp only [add_a, add_b, c] <;> grind
theorem c_sub (a b : Rat) : (c (a - b) : QS (f : Rat)) = c a - c b := by apply ext <;> simp only [sub_a, sub_b, c] <;> grind
theorem c_mul (a b : Rat) : (c (a * b) : QS (f : Rat)) = c a * c b := by apply ext <;> simp only [mul_a, mul_b, c] <;> grind
theorem c_neg (a : Rat) : (c (-a) : QS (f : Rat)) = -c a := by apply ext <;> simp only [neg_a, neg_b, c] <;> grind
theorem c_one : (c 1 : QS (f : Rat)) = 1 := by apply ext <;> simp only [one_a, one_b, c]
theorem c_zero : (c 0 : QS (f : Rat)) = 0 := by apply ext <;> simp only [zero_a, zero_b, c]
variable [NSq (f : Rat)]
theorem c_pos {a : Rat} : (0 : QS (f : Rat)) < c a ↔ 0 < a := by
  rw [pos_iff]
  simp only [QS.Pos, c]
  constructor
  · intro h
    rcases h with h | h
    · exact h.1
    · grind
  · intro h
    exact .inl ⟨h, by have := Rat.mul_pos h h; grind⟩
theorem c_lt {a b : Rat} : (c a : QS (f : Rat)) < c b ↔ a < b := by
  have h := c_pos (f := f) (a := b - a)
  rw [c_sub] at h
  constructor
  · intro k
    have : (0 : QS (f : Rat)) < c b - c a := by grind
    have := h.mp this
    grind
  · intro k
    have := h.mpr (by grind)
    grind
theorem c_le {a b : Rat} : (c a : QS (f : Rat)) ≤ c b ↔ a ≤ b := by
  have h := c_lt (f := f) (a := b) (b := a)
  constructor
  · intro k
    have : ¬ b < a := fun z => by have := h.mpr z; grind
    grind
  · intro k
    have : ¬ (c b : QS (f : Rat)) < c a := fun z => by have := h.mp z; grind
    grind
theorem c_ltI {i j : Int} : (c (i : Rat) : QS (f : Rat)) < c (j : Rat) ↔ i < j := c_lt.trans Rat.intCast_lt_intCast
theorem c_leI {i j : Int} : (c (i : Rat) : QS (f : Rat)) ≤ c (j : Rat) ↔ i ≤ j := c_le.trans Rat.intCast_le_intCast
/-! ### signs -/
theorem sgR_pos {q : Rat} (h : 0 < q) : sgR q = 1 := by
  unfold sgR
  rw [decide_eq_true h, decide_eq_false (by grind : ¬ q < 0)]
  rfl
theorem sgR_neg {q : Rat} (h : q < 0) : sgR q = -1 := by
  unfold sgR
  rw [decide_eq_true h, decide_eq_false (by grind : ¬ 0 < q)]
  rfl
theorem sgR_zero : sgR 0 = 0 := rfl
theorem sg_pos {a b : Rat} (h : (0 : QS (f : Rat)) < ⟨a, b⟩) : sgS f a b = 1 := by
  rw [pos_iff] at h
  simp only [QS.Pos] at h
  unfold sgS
  rcases h with ⟨h1, h2⟩ | ⟨h1, h2⟩
  · rw [sgR_pos h1]
    by_cases q : 0 < b
    · rw [sgR_pos q]; rfl
    · by_cases q2 : b = 0
      · subst q2; rfl
      · rw [sgR_neg (q := b) (by grind), sgR_pos (q := a * a - b * b * (f : Rat)) (by grind)]; rfl
  · rw [sgR_pos h1]
    by_cases q : 0 < a
    · rw [sgR_pos q]; rfl
    · by_cases q2 : a = 0
      · subst q2; rfl
      · rw [sgR_neg (q := a) (by grind), sgR_neg (q := a * a - b * b * (f : Rat)) (by grind)]; rfl
theorem sg_neg {a b : Rat} (h : (⟨a, b⟩ : QS (f : Rat)) < 0) : sgS f a b = -1 := by
  have h : (0 : QS (f : Rat)) < -⟨a, b⟩ := by grind
  rw [pos_iff] at h
  simp only [QS.Pos, neg_a, neg_b] at h
  unfold sgS
  rcases h with ⟨h1, h2⟩ | ⟨h1, h2⟩
  · rw [sgR_neg (q := a) (by grind)]
    by_cases q : b < 0
    · rw [sgR_neg q]; rfl
    · by_cases q2 : b = 0
      · subst q2; rfl
      · rw [sgR_pos (q := b) (by grind), sgR_pos (q := a * a - b * b * (f : Rat)) (by grind)]; rfl
  · rw [sgR_neg (q := b) (by grind)]
    by_cases q : a < 0
    · rw [sgR_neg q]; rfl
    · by_cases q2 : a = 0
      · subst q2; rfl
      · rw [sgR_pos (q := a) (by grind), sgR_neg (q := a * a - b * b * (f : Rat)) (by grind)]; rfl
theorem of_sg_neg {a b : Rat} (h : sgS f a b < 0) : (⟨a, b⟩ : QS (f : Rat)) < 0 := by
  rcases tri (⟨a, b⟩ : QS (f : Rat)) with z | z | z
  · have z1 : a = 0 := congrArg QS.a z
    have z2 : b = 0 := congrArg QS.b z
    subst z1; subst z2
    have e : sgS f 0 0 = 0 := by
      unfold sgS
      rw [sgR_zero, if_pos (.inl rfl), if_neg (by decide)]
    rw [e] at h
    exact absurd h (by decide)
  · rw [sg_pos (pos_iff.mpr z)] at h
    omega
  · have := pos_iff.mpr z
    grind
theorem mk_sub (a b u v : Rat) : (⟨a, b⟩ : QS (f : Rat)) - ⟨u, v⟩ = ⟨a - u, b - v⟩ := rfl
theorem mk_c (a b : Rat) : (⟨a, b⟩ : QS (f : Rat)) = c a + ⟨0, b⟩ := by apply ext <;> simp only [add_a, add_b, c] <;> grind
/-! ### floors -/
/-- between two neighbours -/
def Fl (w : Int) (x : QS (f : Rat)) : Prop := c (w : Rat) ≤ x ∧ x < c ((w : Rat) + 1)
theorem fl_uniq {w v : Int} {x : QS (f : Rat)} (h : Fl w x) (k : Fl v x) : w = v := by
  have a : (c (w : Rat) : QS (f : Rat)) < c ((v : Rat) + 1) := by have := h.1; have := k.2; grind
  have b : (c (v : Rat) : QS (f : Rat)) < c ((w : Rat) + 1) := by have := k.1; have := h.2; grind
  have a1 : (w : Rat) < ((v + 1 : Int) : Rat) := by rw [Rat.intCast_add]; exact c_lt.mp a
  have b1 : (v : Rat) < ((w + 1 : Int) : Rat) := by rw [Rat.intCast_add]; exact c_lt.mp b
  have a2 := Rat.intCast_lt_intCast.mp a1
  have b2 := Rat.intCast_lt_intCast.mp b1
  omega
theorem mul_le_of {z x y : QS (f : Rat)} (hz : 0 < z) (h : z * x ≤ z * y) : x ≤ y := by
  have : ¬ y < x := fun q => by
    have := Lean.Grind.OrderedRing.mul_lt_mul_of_pos_left q hz
    grind
  grind
theorem mul_lt_of {z x y : QS (f : Rat)} (hz : 0 < z) (h : z * x < z * y) : x < y := by
  have : ¬ y ≤ x := fun q => by
    by_cases e : y = x
    · subst e; grind
    · have := Lean.Grind.OrderedRing.mul_lt_mul_of_pos_left (show y < x by grind) hz
      grind
  grind
theorem isq (n : Nat) : Float64.isqrt n * Float64.isqrt n ≤ n ∧ n < (Float64.isqrt n + 1) * (Float64.isqrt n + 1) := Float64.isqrt_spec n
/-- the root's floor -/
theorem rootS_fl (y : Int) : Fl (rootS f y) (⟨0, (y : Rat)⟩ : QS (f : Rat)) := by
  obtain ⟨s1, s2⟩ := isq (sqN f y)
  have e1 : (((Float64.isqrt (sqN f y) : Nat) : Int) : Rat) * ((Float64.isqrt (sqN f y) : Nat) : Int) ≤ ((sqN f y : Nat) : Int) := by
    rw [← Rat.intCast_mul]; exact Rat.intCast_le_intCast.mpr (by exact_mod_cast s1)
  have e2 : (((sqN f y : Nat) : Int) : Rat) < (((Float64.isqrt (sqN f y) : Nat) : Int) + 1 : Rat) * (((Float64.isqrt (sqN f y) : Nat) : Int) + 1 : Rat) := by
    have : (((Float64.isqrt (sqN f y) : Nat) : Int) + 1 : Rat) = ((((Float64.isqrt (sqN f y) : Nat) : Int) + 1 : Int) : Rat) := by rw [Rat.intCast_add]; rfl
    rw [this, ← Rat.intCast_mul]; exact Rat.intCast_lt_intCast.mpr (by exact_mod_cast s2)
  have e3 : (((sqN f y : Nat) : Int) : Rat) = (f : Rat) * (y : Rat) * (y : Rat) := by
    rw [← sqN_int, Rat.intCast_mul, Rat.intCast_mul, Rat.intCast_natCast]; grind
  rw [e3] at e1 e2
  have i0 : (0 : Rat) ≤ (((Float64.isqrt (sqN f y) : Nat) : Int) : Rat) := by
    have := Rat.intCast_le_intCast.mpr (Int.natCast_nonneg (Float64.isqrt (sqN f y)))
    exact this
  have nn : ∀ m : Rat, (m ≠ 0 ∨ (y : Rat) ≠ 0) → m * m ≠ (f : Rat) * y * y := fun m h => norm_ne h
  have hn : y ≠ 0 → Float64.isqrt (sqN f y) * Float64.isqrt (sqN f y) ≠ sqN f y := fun y0 e => by
    refine nn (((Float64.isqrt (sqN f y) : Nat) : Int) : Rat) (.inr fun z => y0 (Rat.intCast_inj.mp z)) ?_
    rw [← e3, ← Rat.intCast_mul]
    exact congrArg Int.cast (by exact_mod_cast e)
  unfold Fl rootS
  generalize (((Float64.isqrt (sqN f y) : Nat) : Int)) = i at *
  by_cases z : y < 0
  · rw [if_pos z]
    have z' : (y : Rat) < 0 := Rat.intCast_lt_intCast.mpr z
    rw [if_pos (hn (by omega))]
    have e4 : ((0 - i - 1 : Int) : Rat) = 0 - (i : Rat) - 1 := by rw [Rat.intCast_sub, Rat.intCast_sub]; rfl
    have n2 := nn (i : Rat)
    rw [e4]
    constructor
    · have h : (0 : QS (f : Rat)) < ⟨0 - (0 - (i : Rat) - 1), (y : Rat) - 0⟩ := pos_iff.mpr (by
        simp only [QS.Pos]; left; grind)
      have e : (⟨0 - (0 - (i : Rat) - 1), (y : Rat) - 0⟩ : QS (f : Rat)) = ⟨0, (y : Rat)⟩ - c (0 - (i : Rat) - 1) := rfl
      rw [e] at h
      grind
    · have h : (0 : QS (f : Rat)) < ⟨0 - (i : Rat) - 1 + 1 - 0, 0 - (y : Rat)⟩ := pos_iff.mpr (by
        simp only [QS.Pos]; right; grind)
      have e : (⟨0 - (i : Rat) - 1 + 1 - 0, 0 - (y : Rat)⟩ : QS (f : Rat)) = c (0 - (i : Rat) - 1 + 1) - ⟨0, (y : Rat)⟩ := rfl
      rw [e] at h
      grind
  · rw [if_neg z]
    have z' : (0 : Rat) ≤ (y : Rat) := (Rat.intCast_le_intCast (a := 0) (b := y)).mpr (by omega)
    have n2 := nn (i : Rat)
    constructor
    · by_cases y0 : (y : Rat) = 0
      · have i2 : (i : Rat) = 0 := by
          rw [y0] at e1
          have h1 : (i : Rat) * i ≤ 0 := by grind
          by_cases q : (i : Rat) = 0
          · exact q
          · have := Rat.mul_pos (a := (i : Rat)) (b := (i : Rat)) (by grind) (by grind)
            grind
        have e : (c (i : Rat) : QS (f : Rat)) = ⟨0, (y : Rat)⟩ := by
          rw [i2, y0]; rfl
        rw [e]; grind
      · have h : (0 : QS (f : Rat)) < ⟨0 - (i : Rat), (y : Rat) - 0⟩ := pos_iff.mpr (by
          simp only [QS.Pos]; right; grind)
        have e : (⟨0 - (i : Rat), (y : Rat) - 0⟩ : QS (f : Rat)) = ⟨0, (y : Rat)⟩ - c (i : Rat) := rfl
        rw [e] at h
        grind
    · have h : (0 : QS (f : Rat)) < ⟨(i : Rat) + 1 - 0, 0 - (y : Rat)⟩ := pos_iff.mpr (by
          simp only [QS.Pos]; left; grind)
      have e : (⟨(i : Rat) + 1 - 0, 0 - (y : Rat)⟩ : QS (f : Rat)) = c ((i : Rat) + 1) - ⟨0, (y : Rat)⟩ := rfl
      rw [e] at h
      grind
theorem lcm_dvd_l {x y : Nat} (hx : 0 < x) : x ∣ lcmN x y := by
  unfold lcmN
  rw [Nat.mul_div_assoc _ (Nat.gcd_dvd_right x y)]
  exact Nat.dvd_mul_right _ _
theorem lcm_dvd_r {x y : Nat} (hx : 0 < x) : y ∣ lcmN x y := by
  unfold lcmN
  rw [Nat.mul_comm, Nat.mul_div_assoc _ (Nat.gcd_dvd_left x y)]
  exact Nat.dvd_mul_right _ _
theorem num_lcm {a : Rat} {L : Nat} (h : a.den ∣ L) : ((a.num * ((L / a.den : Nat) : Int) : Int) : Rat) = (L : Rat) * a := by
  obtain ⟨k, rfl⟩ := h
  rw [Nat.mul_div_cancel_left _ a.den_pos, Rat.intCast_mul, Rat.intCast_natCast, Rat.natCast_mul, ← den_num a]
  grind
theorem fdiv_sp {t l : Int} (hl : 0 < l) : t.fdiv l * l ≤ t ∧ t < (t.fdiv l + 1) * l := by
  rw [Int.fdiv_eq_ediv_of_nonneg _ (by omega)]
  have h1 := Int.ediv_mul_le t (show l ≠ 0 by omega)
  have h2 := Int.lt_ediv_add_one_mul_self t hl
  exact ⟨h1, h2⟩
theorem floorS_fl (a b : Rat) : Fl (floorS f a b) (⟨a, b⟩ : QS (f : Rat)) := by
  have L0 := lcm_pos a.den_pos b.den_pos
  have et : ((topI a b : Int) : Rat) = ((lcmN a.den b.den : Nat) : Rat) * a := num_lcm (lcm_dvd_l a.den_pos)
  have ey : ((byI a b : Int) : Rat) = ((lcmN a.den b.den : Nat) : Rat) * b := num_lcm (lcm_dvd_r a.den_pos)
  obtain ⟨r1, r2⟩ := rootS_fl (f := f) (byI a b)
  have sp := fdiv_sp (t := topI a b + rootS f (byI a b)) (l := ((lcmN a.den b.den : Nat) : Int)) (by omega)
  have hL : (0 : QS (f : Rat)) < c ((lcmN a.den b.den : Nat) : Rat) := c_pos.mpr (by exact_mod_cast L0)
  have key : (c ((lcmN a.den b.den : Nat) : Rat) : QS (f : Rat)) * ⟨a, b⟩ = c ((topI a b : Int) : Rat) + ⟨0, ((byI a b : Int) : Rat)⟩ := by
    rw [et, ey]
    apply ext <;> simp only [mul_a, mul_b, add_a, add_b, c] <;> grind
  unfold floorS
  generalize rootS f (byI a b) = m at *
  generalize topI a b = t at *
  generalize (t + m).fdiv ((lcmN a.den b.den : Nat) : Int) = w at *
  generalize lcmN a.den b.den = L at *
  have s1 := (c_leI (f := f)).mpr sp.1
  have s2 := (c_leI (f := f)).mpr (show t + m + 1 ≤ (w + 1) * (L : Int) by have := sp.2; omega)
  simp only [Rat.intCast_mul, Rat.intCast_add, c_mul, c_add, Rat.intCast_natCast] at s1 s2
  rw [c_add] at r2
  have o : (((1 : Int) : Rat)) = 1 := rfl
  rw [o] at s2
  constructor
  · refine mul_le_of hL ?_
    rw [key]
    grind
  · refine mul_lt_of hL ?_
    rw [key, c_add]
    grind
end
end H50

namespace H50
open PySem PySem.Spec PyProof.Rows L2 DL
open DL.QS
section
variable {f : Nat} [NSq (f : Rat)]
theorem mul_cancel {z x y : QS (f : Rat)} (hz : z ≠ 0) (h : z * x = z * y) : x = y := by
  have e := DL.QS.mul_inv hz
  have a : inv z * (z * x) = inv z * (z * y) := by rw [h]
  grind
theorem c_ne {a : Rat} (h : a ≠ 0) : (c a : QS (f : Rat)) ≠ 0 := fun z => h (congrArg QS.a z)
theorem int_ne {i : Int} (h : i ≠ 0) : ((i : Int) : Rat) ≠ 0 := fun z => h (Rat.intCast_inj.mp z)
/-- the root of d -/
def sg (f r : Nat) : QS (f : Rat) := ⟨0, (r : Rat)⟩
def xq (f r : Nat) (P Q : Int) : QS (f : Rat) := ⟨(P : Rat) / (Q : Rat), (r : Rat) / (Q : Rat)⟩
structure Ok (f r d : Nat) (P Q : Int) : Prop where
  hd : d = r * r * f
  r0 : 0 < r
  q0 : Q ≠ 0
  dv : Q ∣ (d : Int) - P * P
theorem xq_mul {r : Nat} {P Q : Int} (h : Q ≠ 0) : c (Q : Rat) * xq f r P Q = c (P : Rat) + sg f r := by
  have h1 : (Q : Rat) * ((Q : Rat))⁻¹ = 1 := Rat.mul_inv_cancel _ (int_ne h)
  apply ext <;> simp only [mul_a, mul_b, add_a, add_b, c, xq, sg, Rat.div_def] <;> grind
theorem sg_sq {r : Nat} : sg f r * sg f r = c (((r * r * f : Nat) : Int) : Rat) := by
  have e : (((r * r * f : Nat) : Int) : Rat) = (r : Rat) * r * f := by rw [Rat.intCast_natCast, Rat.natCast_mul, Rat.natCast_mul]
  rw [e]
  apply ext <;> simp only [mul_a, mul_b, c, sg] <;> grind
theorem sg_pos' {r : Nat} (h : 0 < r) : (0 : QS (f : Rat)) < sg f r := by
  rw [pos_iff]
  simp only [QS.Pos, sg]
  right
  have r0 : (0 : Rat) < (r : Rat) := by exact_mod_cast h
  have := Rat.mul_pos (NSq.pos (f := (f : Rat))) (Rat.mul_pos r0 r0)
  exact ⟨r0, by grind⟩
theorem sg_fl (r : Nat) : Fl ((Float64.isqrt (r * r * f) : Nat) : Int) (sg f r) := by
  have h := rootS_fl (f := f) (r : Int)
  have e : rootS f (r : Int) = ((Float64.isqrt (r * r * f) : Nat) : Int) := by
    unfold rootS sqN
    rw [if_neg (by omega), Int.natAbs_natCast]
  rw [e] at h
  exact h
theorem sg_lt {r : Nat} (h : r * r * f < 1024 * 1024) : sg f r < c ((1024 : Int) : Rat) := by
  have h1 := (sg_fl (f := f) r).2
  have h2 := (Float64.isqrt_spec (r * r * f)).1
  have h3 : Float64.isqrt (r * r * f) < 1024 := by
    apply Classical.byContradiction
    intro z
    have := Nat.mul_le_mul (show 1024 ≤ Float64.isqrt (r * r * f) by omega) (show 1024 ≤ Float64.isqrt (r * r * f) by omega)
    omega
  have h4 := (c_leI (f := f)).mpr (show (((Float64.isqrt (r * r * f) : Nat) : Int) + 1) ≤ 1024 by omega)
  rw [Rat.intCast_add] at h4
  have o : (((1 : Int) : Rat)) = 1 := rfl
  rw [o] at h4
  grind
theorem sg_strict {r : Nat} (h : 0 < r) : c (((Float64.isqrt (r * r * f) : Nat) : Int) : Rat) < sg f r := by
  have h1 := (sg_fl (f := f) r).1
  have : c (((Float64.isqrt (r * r * f) : Nat) : Int) : Rat) ≠ sg f r := fun z => by
    have := congrArg QS.b z
    simp only [c, sg] at this
    have r0 : (0 : Rat) < (r : Rat) := by exact_mod_cast h
    grind
  grind
/-- the law's own integer -/
def lawFl (d : Nat) (P Q : Int) : Int := if 0 < Q then (P + ((Float64.isqrt d : Nat) : Int)).fdiv Q else (P + ((Float64.isqrt d : Nat) : Int) + 1).fdiv Q
theorem lawFl_fl {r d : Nat} {P Q : Int} (h : Ok f r d P Q) : Fl (lawFl d P Q) (xq f r P Q) := by
  have e := xq_mul (f := f) (r := r) (P := P) h.q0
  have s1 := sg_strict (f := f) h.r0
  have s2 := (sg_fl (f := f) r).2
  have hd := h.hd
  subst hd
  unfold lawFl
  generalize ((Float64.isqrt (r * r * f) : Nat) : Int) = s at *
  have o : (((1 : Int) : Rat)) = 1 := rfl
  rw [c_add] at s2
  by_cases q : 0 < Q
  · rw [if_pos q]
    have sp := fdiv_sp (t := P + s) q
    generalize (P + s).fdiv Q = w at *
    have a1 := (c_leI (f := f)).mpr sp.1
    have a2 := (c_leI (f := f)).mpr (show P + s + 1 ≤ (w + 1) * Q by have := sp.2; omega)
    simp only [Rat.intCast_mul, Rat.intCast_add, c_mul, c_add, o] at a1 a2
    have hQ : (0 : QS (f : Rat)) < c (Q : Rat) := c_pos.mpr (Rat.intCast_lt_intCast.mpr q)
    constructor
    · refine mul_le_of hQ ?_
      rw [e]; grind
    · refine mul_lt_of hQ ?_
      rw [e, c_add]; grind
  · rw [if_neg q]
    have q2 : 0 < -Q := by have := h.q0; omega
    have ef : (P + s + 1).fdiv Q = (-(P + s + 1)).fdiv (-Q) := fdiv_neg_neg.symm
    rw [ef]
    have sp := fdiv_sp (t := -(P + s + 1)) q2
    generalize (-(P + s + 1)).fdiv (-Q) = w at *
    have a1 := (c_leI (f := f)).mpr sp.1
    have a2 := (c_leI (f := f)).mpr (show -(P + s) ≤ (w + 1) * (-Q) by have := sp.2; omega)
    simp only [Rat.intCast_mul, Rat.intCast_add, Rat.intCast_neg, c_mul, c_add, c_neg, o] at a1 a2
    have hQ : (0 : QS (f : Rat)) < -c (Q : Rat) := by
      have : (0 : QS (f : Rat)) < c ((-Q : Int) : Rat) := c_pos.mpr (Rat.intCast_lt_intCast.mpr q2)
      rw [Rat.intCast_neg, c_neg] at this
      exact this
    constructor
    · refine mul_le_of hQ ?_
      have : -c (Q : Rat) * xq f r P Q = -(c (P : Rat) + sg f r) := by rw [← e]; grind
      rw [this]; grind
    · refine mul_lt_of hQ ?_
      have : -c (Q : Rat) * xq f r P Q = -(c (P : Rat) + sg f r) := by rw [← e]; grind
      rw [this, c_add]; grind
/-- one step of going on -/
structure StepOk (f r d : Nat) [NSq (f : Rat)] (P Q w P' Q' : Int) : Prop where
  eq : Q' * Q = (d : Int) - P' * P'
  ok : Ok f r d P' Q'
  p0 : 0 < xq f r P Q - c (w : Rat)
  p1 : xq f r P Q - c (w : Rat) < 1
  inv : (xq f r P Q - c (w : Rat)) * xq f r P' Q' = 1
  rest : xq f r P Q - c (w : Rat) = ⟨(-P' : Rat) / (Q : Rat), (r : Rat) / (Q : Rat)⟩
theorem step_ok {r d : Nat} {P Q w : Int} (h : Ok f r d P Q) (hw : Fl w (xq f r P Q)) : StepOk f r d P Q w (w * Q - P) (((d : Int) - (w * Q - P) * (w * Q - P)).fdiv Q) := by
  obtain ⟨hd, r0, q0, k, hk⟩ := h
  have e0 : (d : Int) - (w * Q - P) * (w * Q - P) = (k - w * w * Q + 2 * w * P) * Q := by grind
  have eq : ((d : Int) - (w * Q - P) * (w * Q - P)).fdiv Q * Q = (d : Int) - (w * Q - P) * (w * Q - P) := by
    rw [e0, Int.mul_fdiv_cancel _ q0]
  have hQ := int_ne q0
  have hi : (Q : Rat) * ((Q : Rat))⁻¹ = 1 := Rat.mul_inv_cancel _ hQ
  have rQ : (0 : Rat) < (r : Rat) := by exact_mod_cast r0
  have nsq : (((w * Q - P : Int)) : Rat) * ((w * Q - P : Int) : Rat) ≠ (f : Rat) * (r : Rat) * (r : Rat) := norm_ne (.inr (by grind))
  have q1 : ((d : Int) - (w * Q - P) * (w * Q - P)).fdiv Q ≠ 0 := fun z => by
    rw [z, Int.zero_mul] at eq
    apply nsq
    have : (w * Q - P) * (w * Q - P) = (d : Int) := by omega
    rw [← Rat.intCast_mul, this, hd, Rat.intCast_natCast, Rat.natCast_mul, Rat.natCast_mul]
    grind
  have rest : xq f r P Q - c (w : Rat) = ⟨(-(w * Q - P : Int) : Rat) / (Q : Rat), (r : Rat) / (Q : Rat)⟩ := by
    apply ext <;> simp only [sub_a, sub_b, c, xq, Rat.div_def, Rat.intCast_sub, Rat.intCast_mul] <;> grind
  generalize hP' : w * Q - P = P' at *
  generalize hQ' : ((d : Int) - P' * P').fdiv Q = Q' at *
  have mQ := xq_mul (f := f) (r := r) (P := P) q0
  have mQ' := xq_mul (f := f) (r := r) (P := P') q1
  have cP : (c (P' : Rat) : QS (f : Rat)) = c (w : Rat) * c (Q : Rat) - c (P : Rat) := by
    rw [← hP', Rat.intCast_sub, Rat.intCast_mul, c_sub, c_mul]
  have cE : (c (Q' : Rat) : QS (f : Rat)) * c (Q : Rat) = c ((d : Int) : Rat) - c (P' : Rat) * c (P' : Rat) := by
    rw [← c_mul, ← c_mul, ← c_sub, ← Rat.intCast_mul, ← Rat.intCast_mul, ← Rat.intCast_sub, eq]
  have cD := sg_sq (f := f) (r := r)
  rw [← hd] at cD
  refine ⟨eq, ⟨hd, r0, q1, Q, by rw [← eq]⟩, ?_, ?_, ?_, rest⟩
  · have h1 := hw.1
    have h2 : xq f r P Q - c (w : Rat) ≠ 0 := fun z => by
      have := congrArg QS.b (rest.symm.trans z)
      simp only [zero_b, Rat.div_def] at this
      rcases Rat.mul_eq_zero.mp this with y | y
      · grind
      · rw [y, Rat.mul_zero] at hi
        exact absurd hi (by decide)
    grind
  · have h1 := hw.2
    rw [c_add, c_one] at h1
    grind
  · refine mul_cancel (z := c (Q : Rat) * c (Q' : Rat)) ?_ ?_
    · rw [← c_mul]
      exact c_ne fun z => by
        rcases Rat.mul_eq_zero.mp z with y | y
        · exact hQ y
        · exact int_ne q1 y
    · have : c (Q : Rat) * (xq f r P Q - c (w : Rat)) = sg f r - c (P' : Rat) := by rw [cP]; grind
      calc c (Q : Rat) * c (Q' : Rat) * ((xq f r P Q - c (w : Rat)) * xq f r P' Q') = (c (Q : Rat) * (xq f r P Q - c (w : Rat))) * (c (Q' : Rat) * xq f r P' Q') := by grind
        _ = (sg f r - c (P' : Rat)) * (c (P' : Rat) + sg f r) := by rw [this, mQ']
        _ = c ((d : Int) : Rat) - c (P' : Rat) * c (P' : Rat) := by rw [← cD]; grind
        _ = c (Q : Rat) * c (Q' : Rat) * 1 := by rw [← cE]; grind
end
end H50

namespace H50
open PySem PySem.Spec PyProof.Rows L2 DL
open DL.QS
section
variable {f : Nat} [NSq (f : Rat)]
theorem o1 : (((1 : Int) : Rat)) = 1 := rfl
theorem step_rest {r d : Nat} {P Q w P' Q' : Int} (h : Ok f r d P Q) (s : StepOk f r d P Q w P' Q') : c (Q : Rat) * (xq f r P Q - c (w : Rat)) = sg f r - c (P' : Rat) := by
  rw [s.rest]
  have hi : (Q : Rat) * ((Q : Rat))⁻¹ = 1 := Rat.mul_inv_cancel _ (int_ne h.q0)
  apply ext <;> simp only [mul_a, mul_b, sub_a, sub_b, c, sg, Rat.div_def] <;> grind
theorem step_lt {r d : Nat} {P Q w P' Q' : Int} (h : Ok f r d P Q) (s : StepOk f r d P Q w P' Q') (hd : d < 1024 * 1024) : P'.natAbs < 1024 + Q.natAbs ∧ Q'.natAbs ≤ 1024 + P'.natAbs := by
  have e := step_rest h s
  have p0 := s.p0
  have p1 := s.p1
  have g0 := sg_pos' (f := f) h.r0
  have g1 := sg_lt (f := f) (r := r) (by rw [← h.hd]; exact hd)
  have cE : (c (Q' : Rat) : QS (f : Rat)) * c (Q : Rat) = c ((d : Int) : Rat) - c (P' : Rat) * c (P' : Rat) := by
    rw [← c_mul, ← c_mul, ← c_sub, ← Rat.intCast_mul, ← Rat.intCast_mul, ← Rat.intCast_sub, s.eq]
  have cD := sg_sq (f := f) (r := r)
  rw [← h.hd] at cD
  generalize xq f r P Q - c (w : Rat) = x at *
  have hq : (c (Q' : Rat) : QS (f : Rat)) = x * (sg f r + c (P' : Rat)) := by
    refine mul_cancel (z := c (Q : Rat)) (c_ne (int_ne h.q0)) ?_
    calc c (Q : Rat) * c (Q' : Rat) = sg f r * sg f r - c (P' : Rat) * c (P' : Rat) := by rw [cD, ← cE]; grind
      _ = (sg f r - c (P' : Rat)) * (sg f r + c (P' : Rat)) := by grind
      _ = _ := by rw [← e]; grind
  generalize sg f r = g at *
  constructor
  · rcases Int.lt_or_gt_of_ne h.q0 with q | q
    · have cq : (c (Q : Rat) : QS (f : Rat)) < 0 := by rw [← c_zero]; exact c_lt.mpr (Rat.intCast_lt_intCast.mpr q)
      have m1 : 0 < (-c (Q : Rat)) * x := QS.mul_pos' (by grind) p0
      have m2 : 0 < (-c (Q : Rat)) * (1 - x) := QS.mul_pos' (by grind) (by grind)
      have a1 : (c ((0 : Int) : Rat) : QS (f : Rat)) < c (P' : Rat) := by
        have : (c ((0 : Int) : Rat) : QS (f : Rat)) = 0 := c_zero
        rw [this]; grind
      have a2 : (c (P' : Rat) : QS (f : Rat)) < c ((1024 - Q : Int) : Rat) := by
        rw [Rat.intCast_sub, c_sub]; grind
      have b1 := c_ltI.mp a1
      have b2 := c_ltI.mp a2
      omega
    · have cq : (0 : QS (f : Rat)) < c (Q : Rat) := c_pos.mpr (Rat.intCast_lt_intCast.mpr q)
      have m1 : 0 < c (Q : Rat) * x := QS.mul_pos' cq p0
      have m2 : 0 < c (Q : Rat) * (1 - x) := QS.mul_pos' cq (by grind)
      have a1 : (c (P' : Rat) : QS (f : Rat)) < c ((1024 : Int) : Rat) := by grind
      have a2 : (c ((-Q : Int) : Rat) : QS (f : Rat)) < c (P' : Rat) := by
        rw [Rat.intCast_neg, c_neg]; grind
      have b1 := c_ltI.mp a1
      have b2 := c_ltI.mp a2
      omega
  · have up : (c (Q' : Rat) : QS (f : Rat)) ≤ c ((1024 + (P'.natAbs : Int) : Int) : Rat) ∧ c ((-(1024 + (P'.natAbs : Int)) : Int) : Rat) ≤ (c (Q' : Rat) : QS (f : Rat)) := by
      have n1 : (c (P' : Rat) : QS (f : Rat)) ≤ c (((P'.natAbs : Int)) : Rat) := c_leI.mpr (by omega)
      have n2 : (c ((-(P'.natAbs : Int) : Int) : Rat) : QS (f : Rat)) ≤ c (P' : Rat) := c_leI.mpr (by omega)
      have k0 : (0 : QS (f : Rat)) < c ((1024 : Int) : Rat) := c_pos.mpr (by decide)
      rw [Rat.intCast_neg, c_neg] at n2
      rw [Rat.intCast_neg, c_neg, Rat.intCast_add, c_add]
      by_cases q : 0 < g + c (P' : Rat)
      · have m1 := QS.mul_pos' p0 q
        have m2 : 0 < (1 - x) * (g + c (P' : Rat)) := QS.mul_pos' (by grind) q
        constructor <;> grind
      · by_cases q2 : g + c (P' : Rat) = 0
        · rw [q2] at hq
          constructor <;> grind
        · have m1 : 0 < x * -(g + c (P' : Rat)) := QS.mul_pos' p0 (by grind)
          have m2 : 0 < (1 - x) * -(g + c (P' : Rat)) := QS.mul_pos' (by grind) (by grind)
          constructor <;> grind
    have b1 := c_leI.mp up.1
    have b2 := c_leI.mp up.2
    omega
/-- what is put together -/
structure Cv (x0 y : QS (f : Rat)) (T1 T2 L1 L2 e : Int) : Prop where
  eq : x0 * (c (L1 : Rat) * y + c (L2 : Rat)) = c (T1 : Rat) * y + c (T2 : Rat)
  det : T1 * L2 - T2 * L1 = e
theorem cv_step {x0 y z : QS (f : Rat)} {T1 T2 L1 L2 e w : Int} (h : Cv x0 y T1 T2 L1 L2 e) (hz : (y - c (w : Rat)) * z = 1) : Cv x0 z (w * T1 + T2) T1 (w * L1 + L2) L1 (-e) where
  eq := by
    have h1 := h.eq
    rw [Rat.intCast_add, Rat.intCast_mul, c_add, c_mul, Rat.intCast_add, Rat.intCast_mul, c_add, c_mul]
    have hy : y * z = 1 + c (w : Rat) * z := by grind
    have : x0 * (c (L1 : Rat) * (y * z) + c (L2 : Rat) * z) = c (T1 : Rat) * (y * z) + c (T2 : Rat) * z := by grind
    rw [hy] at this
    grind
  det := by
    have := h.det
    grind
/-- the fraction put together is near, on the one side -/
structure Near (x0 : QS (f : Rat)) (t l : Rat) (e : Int) : Prop where
  side : 0 < c (e : Rat) * (c t - x0)
  up : x0 < c (t + 1 / (l * l))
  lo : c (t - 1 / (l * l)) < x0
theorem cv_near {x0 y : QS (f : Rat)} {T L T1 L1 e : Int} (h : Cv x0 y T T1 L L1 e) (he : e = 1 ∨ e = -1) (hL : 1 ≤ L) (hL1 : 0 ≤ L1) (hy : 1 < y) : Near x0 ((T : Rat) / (L : Rat)) (L : Rat) e := by
  have hLr : (L : Rat) ≠ 0 := int_ne (by omega)
  have hLi : (L : Rat) * ((L : Rat))⁻¹ = 1 := Rat.mul_inv_cancel _ hLr
  have L0 : (0 : QS (f : Rat)) < c (L : Rat) := c_pos.mpr (Rat.intCast_lt_intCast.mpr (by omega : 0 < L))
  have L10 : (0 : QS (f : Rat)) ≤ c (L1 : Rat) := by rw [← c_zero]; exact c_le.mpr ((Rat.intCast_le_intCast (a := 0) (b := L1)).mpr hL1)
  have lt : (c (L : Rat) : QS (f : Rat)) * c ((T : Rat) / (L : Rat)) = c (T : Rat) := by
    rw [← c_mul]
    congr 1
    rw [Rat.div_def]; grind
  have hdet := h.det
  have cdet : (c (T : Rat) : QS (f : Rat)) * c (L1 : Rat) - c (T1 : Rat) * c (L : Rat) = c (e : Rat) := by
    rw [← c_mul, ← c_mul, ← c_sub, ← Rat.intCast_mul, ← Rat.intCast_mul, ← Rat.intCast_sub, hdet]
  have hM : c (L : Rat) < c (L : Rat) * y + c (L1 : Rat) := by
    have := QS.mul_pos' L0 (show 0 < y - 1 by grind)
    grind
  have hE := h.eq
  -- (t - x0) l M = e
  have key : c (L : Rat) * (c ((T : Rat) / (L : Rat)) - x0) * (c (L : Rat) * y + c (L1 : Rat)) = c (e : Rat) := by
    have e2 : c (L : Rat) * (c ((T : Rat) / (L : Rat)) - x0) = c (T : Rat) - c (L : Rat) * x0 := by rw [← lt]; grind
    rw [e2, ← cdet]
    have : c (L : Rat) * (x0 * (c (L : Rat) * y + c (L1 : Rat))) = c (L : Rat) * (c (T : Rat) * y + c (T1 : Rat)) := by rw [hE]
    grind
  have ee : (c (e : Rat) : QS (f : Rat)) * c (e : Rat) = 1 := by
    rw [← c_mul, ← Rat.intCast_mul, ← c_one]
    rcases he with rfl | rfl <;> rfl
  generalize hD : c ((T : Rat) / (L : Rat)) - x0 = D at key
  generalize c (L : Rat) * y + c (L1 : Rat) = M at *
  have hMp : 0 < M := by grind
  -- u = e D > 0
  have hu : c (L : Rat) * M * (c (e : Rat) * D) = 1 := by rw [← ee, ← key]; grind
  have hu0 : 0 < c (e : Rat) * D := by
    have p := QS.mul_pos' L0 hMp
    refine mul_lt_of p ?_
    rw [hu]
    have : (0 : QS (f : Rat)) < 1 := by grind
    grind
  have hu1 : c (L : Rat) * c (L : Rat) * (c (e : Rat) * D) < 1 := by
    have p : 0 < (M - c (L : Rat)) * (c (L : Rat) * (c (e : Rat) * D)) := QS.mul_pos' (by grind) (QS.mul_pos' L0 hu0)
    grind
  have lle : (c (L : Rat) : QS (f : Rat)) * c (L : Rat) * c (1 / ((L : Rat) * (L : Rat))) = 1 := by
    rw [← c_mul, ← c_mul, ← c_one]
    congr 1
    have : (L : Rat) * (L : Rat) ≠ 0 := fun z => by rcases Rat.mul_eq_zero.mp z with y | y <;> exact hLr y
    have := Rat.mul_inv_cancel _ this
    rw [Rat.div_def]; grind
  have LL : (0 : QS (f : Rat)) < c (L : Rat) * c (L : Rat) := QS.mul_pos' L0 L0
  have both : c (L : Rat) * c (L : Rat) * D < 1 ∧ -1 < c (L : Rat) * c (L : Rat) * D := by
    have p := QS.mul_pos' LL hu0
    rcases he with rfl | rfl
    · have o : (c ((1 : Int) : Rat) : QS (f : Rat)) = 1 := c_one
      rw [o] at hu1 p
      constructor <;> grind
    · have o : (c ((-1 : Int) : Rat) : QS (f : Rat)) = -1 := by
        have : ((-1 : Int) : Rat) = -1 := rfl
        rw [this, c_neg, c_one]
      rw [o] at hu1 p
      constructor <;> grind
  refine ⟨by rw [hD]; exact hu0, ?_, ?_⟩
  · rw [c_add]
    refine mul_lt_of LL ?_
    have : x0 = c ((T : Rat) / (L : Rat)) - D := by rw [← hD]; grind
    rw [this]
    grind
  · rw [c_sub]
    refine mul_lt_of LL ?_
    have : x0 = c ((T : Rat) / (L : Rat)) - D := by rw [← hD]; grind
    rw [this]
    grind
end
end H50

namespace H50
open PySem PySem.Spec PyProof.Rows L2 DL
open DL.QS
section
variable {f : Nat} [NSq (f : Rat)]
theorem divS_inv (u v : Rat) : (⟨(divS f 1 0 u v).1, (divS f 1 0 u v).2⟩ : QS (f : Rat)) = inv ⟨u, v⟩ := by
  unfold divS inv
  apply ext <;> simp only [Rat.div_def] <;> grind
theorem divS_eq {u v : Rat} {y : QS (f : Rat)} (h : (⟨u, v⟩ : QS (f : Rat)) * y = 1) : divS f 1 0 u v = (y.a, y.b) := by
  have nz : (⟨u, v⟩ : QS (f : Rat)) ≠ 0 := fun z => by
    rw [z] at h
    have : (0 : QS (f : Rat)) = 1 := by grind
    have := congrArg QS.a this
    simp only [zero_a, one_a] at this
    exact absurd this (by decide)
  have e : inv ⟨u, v⟩ = y := mul_cancel nz (by rw [h, mul_inv nz])
  rw [← divS_inv] at e
  rw [← e]
theorem norm_of_inv {u v : Rat} {y : QS (f : Rat)} (h : (⟨u, v⟩ : QS (f : Rat)) * y = 1) : u * u - v * v * (f : Rat) ≠ 0 := by
  intro z
  have : ¬ (u ≠ 0 ∨ v ≠ 0) := fun w => norm_ne (f := (f : Rat)) w (by grind)
  have hu : u = 0 := by
    apply Classical.byContradiction; intro w; exact this (.inl w)
  have hv : v = 0 := by
    apply Classical.byContradiction; intro w; exact this (.inr w)
  subst hu; subst hv
  have e := congrArg QS.a h
  simp only [mul_a, one_a] at e
  grind
theorem n40 : (c (((2 ^ 40 : Nat)) : Rat) : QS (f : Rat)) = 1099511627776 := rfl
theorem gap {r d : Nat} {P Q w P' Q' : Int} (h : Ok f r d P Q) (s : StepOk f r d P Q w P' Q') (hd : d < 1024 * 1024) (hQ : Q.natAbs < 2 ^ 16) (hP : P'.natAbs < 2 ^ 17) : 1 < c (((2 ^ 40 : Nat)) : Rat) * (1 - (xq f r P Q - c (w : Rat))) := by
  have e := step_rest h s
  have p1 := s.p1
  have g0 := sg_pos' (f := f) h.r0
  have g1 := sg_lt (f := f) (r := r) (by rw [← h.hd]; exact hd)
  have cD := sg_sq (f := f) (r := r)
  rw [← h.hd] at cD
  have rQ : (r : Rat) ≠ 0 := by have : (0 : Rat) < (r : Rat) := by exact_mod_cast h.r0
                                grind
  have n0 : (Q + P') * (Q + P') - (d : Int) ≠ 0 := fun z => by
    refine norm_ne (f := (f : Rat)) (a := ((Q + P' : Int) : Rat)) (b := (r : Rat)) (.inr rQ) ?_
    have : (Q + P') * (Q + P') = (d : Int) := by omega
    rw [← Rat.intCast_mul, this, h.hd, Rat.intCast_natCast, Rat.natCast_mul, Rat.natCast_mul]
    grind
  generalize xq f r P Q - c (w : Rat) = x at *
  have cn : (c (((Q + P') * (Q + P') - (d : Int) : Int) : Rat) : QS (f : Rat)) = (1 - x) * (c (Q : Rat) * (c (Q : Rat) + c (P' : Rat)) + c (Q : Rat) * sg f r) := by
    rw [Rat.intCast_sub, Rat.intCast_mul, Rat.intCast_add, c_sub, c_mul, c_add, ← cD]
    have : c (Q : Rat) * (1 - x) = c (Q : Rat) + c (P' : Rat) - sg f r := by
      have : c (Q : Rat) * (1 - x) = c (Q : Rat) - c (Q : Rat) * x := by grind
      rw [this, e]; grind
    have : (1 - x) * (c (Q : Rat) * (c (Q : Rat) + c (P' : Rat)) + c (Q : Rat) * sg f r) = (c (Q : Rat) * (1 - x)) * (c (Q : Rat) + c (P' : Rat) + sg f r) := by grind
    rw [this]
    grind
  generalize hn : (Q + P') * (Q + P') - (d : Int) = n at *
  have m34 : (Q * (Q + P')).natAbs < 2 ^ 34 := by
    rw [Int.natAbs_mul]
    exact Nat.mul_lt_mul'' (a := Q.natAbs) (b := (Q + P').natAbs) (c := 2 ^ 16) (d := 2 ^ 18) hQ (by omega)
  have z1 : (c (Q : Rat) : QS (f : Rat)) * (c (Q : Rat) + c (P' : Rat)) < 17179869184 := by
    have : (c ((Q * (Q + P') : Int) : Rat) : QS (f : Rat)) < c ((17179869184 : Int) : Rat) := c_ltI.mpr (by omega)
    rw [Rat.intCast_mul, Rat.intCast_add, c_mul, c_add] at this
    exact this
  have z2 : -(17179869184 : QS (f : Rat)) < (c (Q : Rat) : QS (f : Rat)) * (c (Q : Rat) + c (P' : Rat)) := by
    have : (c ((-17179869184 : Int) : Rat) : QS (f : Rat)) < c ((Q * (Q + P') : Int) : Rat) := c_ltI.mpr (by omega)
    rw [Rat.intCast_mul, Rat.intCast_add, c_mul, c_add] at this
    have e3 : (c ((-17179869184 : Int) : Rat) : QS (f : Rat)) = -(17179869184 : QS (f : Rat)) := rfl
    rw [e3] at this
    exact this
  have k1 : (c ((1024 : Int) : Rat) : QS (f : Rat)) = 1024 := rfl
  rw [k1] at g1
  have q1 : (c (Q : Rat) : QS (f : Rat)) < 65536 := by
    have : (c (Q : Rat) : QS (f : Rat)) < c ((65536 : Int) : Rat) := c_ltI.mpr (by omega)
    exact this
  have q2 : -(65536 : QS (f : Rat)) < (c (Q : Rat) : QS (f : Rat)) := by
    have : (c ((-65536 : Int) : Rat) : QS (f : Rat)) < c (Q : Rat) := c_ltI.mpr (by omega)
    have e3 : (c ((-65536 : Int) : Rat) : QS (f : Rat)) = -(65536 : QS (f : Rat)) := rfl
    rw [e3] at this
    exact this
  have y1 : (c (Q : Rat) : QS (f : Rat)) * sg f r < 67108864 := by
    have := QS.mul_pos' (show 0 < 65536 - (c (Q : Rat) : QS (f : Rat)) by grind) g0
    grind
  have y2 : -(67108864 : QS (f : Rat)) < (c (Q : Rat) : QS (f : Rat)) * sg f r := by
    have := QS.mul_pos' (show 0 < 65536 + (c (Q : Rat) : QS (f : Rat)) by grind) g0
    grind
  rw [n40]
  generalize hz : c (Q : Rat) * (c (Q : Rat) + c (P' : Rat)) + c (Q : Rat) * sg f r = z at *
  have zb1 : z < 34359738368 := by grind
  have zb2 : -34359738368 < z := by grind
  have u0 : 0 < 1 - x := by grind
  generalize 1 - x = u at *
  have w1 := QS.mul_pos' u0 (show 0 < 34359738368 - z by grind)
  have w2 := QS.mul_pos' u0 (show 0 < 34359738368 + z by grind)
  rcases Int.lt_or_gt_of_ne n0 with k | k
  · have a1 : (c (n : Rat) : QS (f : Rat)) ≤ c ((-1 : Int) : Rat) := c_leI.mpr (by omega)
    have e3 : (c ((-1 : Int) : Rat) : QS (f : Rat)) = -1 := rfl
    rw [e3] at a1
    grind
  · have a1 : (c ((1 : Int) : Rat) : QS (f : Rat)) ≤ c (n : Rat) := c_leI.mpr (by omega)
    have e3 : (c ((1 : Int) : Rat) : QS (f : Rat)) = 1 := rfl
    rw [e3] at a1
    grind
theorem cand_fl (a b : Rat) (i : Nat) : Fl (candS f a b i - 1) ((⟨a, b⟩ : QS (f : Rat)) * c ((2 ^ i : Nat) : Rat)) := by
  have h := floorS_fl (f := f) (a * ((2 ^ i : Nat) : Rat)) (b * ((2 ^ i : Nat) : Rat))
  have e : (⟨a * ((2 ^ i : Nat) : Rat), b * ((2 ^ i : Nat) : Rat)⟩ : QS (f : Rat)) = (⟨a, b⟩ : QS (f : Rat)) * c ((2 ^ i : Nat) : Rat) := by
    apply ext <;> simp only [mul_a, mul_b, c] <;> grind
  rw [e] at h
  have e2 : candS f a b i - 1 = floorS f (a * ((2 ^ i : Nat) : Rat)) (b * ((2 ^ i : Nat) : Rat)) := by unfold candS; omega
  rw [e2]; exact h
theorem p2_pos (i : Nat) : (0 : Rat) < ((2 ^ i : Nat) : Rat) := by exact_mod_cast Nat.two_pow_pos i
theorem cand_mul (k : Int) (i : Nat) : (c ((2 ^ i : Nat) : Rat) : QS (f : Rat)) * c (Rat.divInt k ((2 ^ i : Nat) : Int)) = c (k : Rat) := by
  rw [← c_mul]
  congr 1
  rw [Rat.divInt_eq_div, Rat.intCast_natCast, Rat.div_def]
  have := Rat.mul_inv_cancel _ (show ((2 ^ i : Nat) : Rat) ≠ 0 by have := p2_pos i; grind)
  grind
theorem stop_of {a b : Rat} {N : Nat} (h : 1 < c (((2 ^ N : Nat)) : Rat) * (1 - (⟨a, b⟩ : QS (f : Rat)))) : stopS f a b 1 0 N := by
  have hf := (cand_fl (f := f) a b N).1
  have hm := cand_mul (f := f) (candS f a b N) N
  have hp : (0 : QS (f : Rat)) < c ((2 ^ N : Nat) : Rat) := c_pos.mpr (p2_pos N)
  rw [Rat.intCast_sub, c_sub, o1, c_one] at hf
  unfold stopS
  have : (⟨Rat.divInt (candS f a b N) ((2 ^ N : Nat) : Int) - 1, 0 - 0⟩ : QS (f : Rat)) < 0 := by
    have e : (⟨Rat.divInt (candS f a b N) ((2 ^ N : Nat) : Int) - 1, 0 - 0⟩ : QS (f : Rat)) = c (Rat.divInt (candS f a b N) ((2 ^ N : Nat) : Int)) - 1 := rfl
    rw [e]
    have : c (Rat.divInt (candS f a b N) ((2 ^ N : Nat) : Int)) < (1 : QS (f : Rat)) := by
      refine mul_lt_of hp ?_
      rw [hm]
      grind
    grind
  rw [sg_neg this]
  decide
theorem stop_den {a b : Rat} {i : Nat} (h0 : 0 < (⟨a, b⟩ : QS (f : Rat))) (h : stopS f a b 1 0 i) : 1 < (Rat.divInt (candS f a b i) ((2 ^ i : Nat) : Int)).den := by
  have hf := (cand_fl (f := f) a b i).2
  have hp : (0 : QS (f : Rat)) < c ((2 ^ i : Nat) : Rat) := c_pos.mpr (p2_pos i)
  have hm := cand_mul (f := f) (candS f a b i) i
  have h1 := of_sg_neg h
  have e : (⟨Rat.divInt (candS f a b i) ((2 ^ i : Nat) : Int) - 1, 0 - 0⟩ : QS (f : Rat)) = c (Rat.divInt (candS f a b i) ((2 ^ i : Nat) : Int) - 1) := QS.ext rfl (by show (0 : Rat) - 0 = 0; grind)
  rw [e, ← c_zero] at h1
  have lt1 := c_lt.mp h1
  have pos : (0 : QS (f : Rat)) < c ((2 ^ i : Nat) : Rat) * c (Rat.divInt (candS f a b i) ((2 ^ i : Nat) : Int)) := by
    rw [hm]
    have p := QS.mul_pos' h0 hp
    have : (c (((candS f a b i - 1 : Int) : Rat) + 1) : QS (f : Rat)) = c (candS f a b i : Rat) := by
      congr 1
      rw [Rat.intCast_sub, o1]; grind
    rw [this] at hf
    grind
  have gt0 : 0 < Rat.divInt (candS f a b i) ((2 ^ i : Nat) : Int) := by
    rw [← c_mul] at pos
    have := c_pos.mp pos
    have p := p2_pos i
    apply Classical.byContradiction
    intro z
    have := Rat.mul_nonneg (a := ((2 ^ i : Nat) : Rat)) (b := -(Rat.divInt (candS f a b i) ((2 ^ i : Nat) : Int))) (by grind) (by grind)
    grind
  generalize Rat.divInt (candS f a b i) ((2 ^ i : Nat) : Int) = q at *
  have d0 := q.den_pos
  apply Classical.byContradiction
  intro z
  have d1 : q.den = 1 := by omega
  have hn := den_num q
  rw [d1] at hn
  have e2 : q = (q.num : Rat) := by
    have : ((1 : Nat) : Rat) = 1 := rfl
    rw [this] at hn; grind
  rw [e2] at gt0 lt1
  have a1 : (0 : Int) < q.num := Rat.intCast_lt_intCast.mp gt0
  have a2 : ((q.num : Int) : Rat) < ((1 : Int) : Rat) := by rw [o1]; grind
  have a3 := Rat.intCast_lt_intCast.mp a2
  omega
end
end H50

namespace H50
open PySem PySem.Spec PyProof.Rows L2 DL
open DL.QS
theorem de_take {Pg : Program} {K : Fg} {ρ : List Sl} {i m : Nat} {p : Addr} {cs : List D} {te : TE} {u : Int} {Q : D → List Sl → Prop} (hi : ρ[i]? = some (.ce p cs)) (hp : PotN m cs) (hu : DP K te ρ (.int u)) (h1 : 1 ≤ u) (h2 : u < 2 ^ 1000) (hm : m < 1000000) (q : ∀ k es, 0 ≤ k → k < u → PotN (m + 1) es → Q (.int k) (ρ.set i (.ce p es))) :
    DE K (tCall (spC K c_law_take) [] E0 (tCons (tVar i) (tCons te tNil))) ρ Q := de_callC hi (DA.of (dap_cons hu dap_nil) ⟨cs, hi, m, u, rfl, h1, h2, hm, hp, q⟩)
def c_law_floor : Call := fun ds T => ∃ (d : Nat) (P Q : Int), ds = [.int (d : Int), .int P, .int Q] ∧ d < 2 ^ 400 ∧ Q ≠ 0 ∧ Q.natAbs < 2 ^ 900 ∧ T (.int (lawFl d P Q))
theorem len_law_floor {ds T} (h : c_law_floor ds T) : ds.length = 3 := by obtain ⟨_, _, _, rfl, _⟩ := h; rfl
abbrev N_law_floor : List Str := ["field", "p", "q", "root"]
theorem sc_law_floor : FnScope N_law_floor ["field", "p", "q"] (defScope s_law_floor) := ⟨rfl, rfl, rfl, by decide +kernel, rfl, by decide +kernel, by decide +kernel⟩
set_option maxHeartbeats 2000000 in
theorem ok_law_floor {Pg : Program} {w : World} {K : Fg} {mg : Str → Option Value} {base : Heap} (C : Cs K mg) (D0 : DfX K mg "_law_floor" s_law_floor ["field", "p", "q"]) (h__law_floor_root : OkF Pg w K mg base "_law_floor_root" 1 ["number"] (spP K c_law_floor_root)) : OkF Pg w K mg base "_law_floor" 2 ["field", "p", "q"] (spP K c_law_floor) := by
  refine okP D0 sc_law_floor (fun ds T h => len_law_floor h) fun f cdv A outer s H E hr => ⟨_, (pss_cons (ps_set (i := 3) sc_law_floor.nd rfl (.inl rfl) (pe_cl h__law_floor_root (hr.mono (by decide)) (pa_cons (pv 0) pa_nil)))
      (pss_one (ps_ret (pe_ifExp (pt_cmpR op_gt (pv 2) pe_int (nomark _)) (pe_op op_fdivX (pe_op op_add (pv 1) (pv 3)) (pv 2)) (pe_op op_fdivX (pe_op op_add (pe_op op_add (pv 1) (pv 3)) pe_int) (pv 2)))))), fun ds T h => ?_⟩
  obtain ⟨d, P, Q, rfl, hd, q0, hq, hT⟩ := h
  refine ds_let (dp_call (dap_cons (dp_var rfl) dap_nil) ⟨d, rfl, hd, rfl⟩) ?_
  refine ds_retp (dp_ite (p := 0 < Q) (dtp_test (dp_gt (dp_var rfl) dp_int)) (fun _ => dp_div (dp_add (dp_var rfl) (dp_var rfl)) (dp_var rfl) (cdiv q0 hq (by decide))) (fun _ => dp_div (dp_add (dp_add (dp_var rfl) (dp_var rfl)) dp_int) (dp_var rfl) (cdiv q0 hq (by decide)))) ?_
  unfold lawFl at hT
  by_cases z : 0 < Q
  · rw [if_pos z] at hT ⊢; exact hT
  · rw [if_neg z] at hT ⊢; exact hT
def c_law_start : CallC := fun cs ds T => ∃ (m f : Nat), ds = [.int (f : Int)] ∧ m < 900000 ∧ f ≤ 64 ∧ PotN m cs ∧ ∀ (d r : Nat) (P Q : Int) es, Ok f r d P Q → d < 1024 * 1024 → P.natAbs < 1024 → Q.natAbs < 256 → PotN (m + 4) es → T (.tuple [.int (d : Int), .int P, .int Q, eQ ((P : Rat) / (Q : Rat)) ((r : Rat) / (Q : Rat))]) es
theorem len_law_start {cs ds T} (h : c_law_start cs ds T) : ds.length + 1 = 2 := by obtain ⟨_, _, rfl, _⟩ := h; rfl
theorem start_ok {f : Nat} {p q by_ : Int} (hq : q ≠ 0) (hb : 1 ≤ by_) : Ok f (by_.natAbs * q.natAbs) (f * by_.natAbs * by_.natAbs * q.natAbs * q.natAbs) (p * q.natAbs) (q * q.natAbs) where
  hd := by grind
  r0 := Nat.mul_pos (by omega) (by omega)
  q0 := Int.mul_ne_zero hq (by omega)
  dv := by
    have e : (((f * by_.natAbs * by_.natAbs * q.natAbs * q.natAbs : Nat) : Int)) - p * q.natAbs * (p * q.natAbs) = (q.natAbs : Int) * (q.natAbs : Int) * ((f : Int) * by_.natAbs * by_.natAbs - p * p) := by
      simp only [Int.natCast_mul]; grind
    rw [e]
    generalize (f : Int) * by_.natAbs * by_.natAbs - p * p = X
    rcases Int.natAbs_eq q with h | h
    · refine ⟨X, ?_⟩
      generalize (q.natAbs : Int) = n at *
      subst h; rfl
    · refine ⟨-X, ?_⟩
      generalize (q.natAbs : Int) = n at *
      subst h; grind
theorem ratio_mul {a b k : Rat} (hk : k ≠ 0) : (a * k) / (b * k) = a / b := by
  by_cases hb : b = 0
  · subst hb
    rw [Rat.zero_mul, Rat.div_def, Rat.div_def, Rat.inv_zero, Rat.mul_zero, Rat.mul_zero]
  · have h1 := Rat.mul_inv_cancel b hb
    have h2 := Rat.mul_inv_cancel (b * k) (fun z => by rcases Rat.mul_eq_zero.mp z with y | y; exact hb y; exact hk y)
    rw [Rat.div_def, Rat.div_def]
    grind
theorem start_q {p q : Int} (hq : q ≠ 0) : Rat.divInt (if 0 < q then p else 0 - p) (q.natAbs : Int) = (((p * q.natAbs : Int)) : Rat) / ((q * q.natAbs : Int) : Rat) := by
  have hk : ((q.natAbs : Int) : Rat) ≠ 0 := int_ne (by omega)
  rw [Rat.intCast_mul, Rat.intCast_mul, ratio_mul hk]
  by_cases z : 0 < q
  · rw [if_pos z, Rat.divInt_eq_div]
    have : (q.natAbs : Int) = q := by omega
    rw [this]
  · rw [if_neg z, Rat.divInt_eq_div]
    have : (q.natAbs : Int) = -q := by omega
    rw [this, Int.zero_sub, Rat.intCast_neg, Rat.intCast_neg, Rat.div_def, Rat.div_def]
    have h1 := Rat.mul_inv_cancel (q : Rat) (int_ne hq)
    have h2 := Rat.mul_inv_cancel (-(q : Rat)) (by have := int_ne hq; grind)
    grind
abbrev N_law_start : List Str := ["pot", "field", "p", "q", "by", "size", "one"]
theorem sc_law_start : FnScope N_law_start ["pot", "field"] (defScope s_law_start) := ⟨rfl, rfl, rfl, by decide +kernel, rfl, by decide +kernel, by decide +kernel⟩
set_option maxHeartbeats 2000000 in
theorem ok_law_start {Pg : Program} {w : World} {K : Fg} {mg : Str → Option Value} {base : Heap} (C : Cs K mg) (D0 : DfX K mg "_law_start" s_law_start ["pot", "field"]) (h__law_take : OkF Pg w K mg base "_law_take" 1 ["pot", "upto"] (spC K c_law_take)) (h__law_reduced : OkF Pg w K mg base "_law_reduced" 1 ["top", "low"] (spP K c_law_reduced)) : OkF Pg w K mg base "_law_start" 2 ["pot", "field"] (spC K c_law_start) := by
  refine okC D0 sc_law_start (fun cs ds T h => len_law_start h) fun f cdv A outer s H E hr => ⟨_, (pss_cons (ps_par3 (i := 2) (j := 3) (l := 4) rfl sc_law_start.nd rfl rfl rfl (by decide) (by decide) (by decide) rfl rfl rfl (pa_cons (pe_op op_sub (pe_callTy call_int1 (by rfl) C.f_int (by decide +kernel) (pa_cons (pe_cl h__law_take (hr.mono (by decide)) (pa_cons (pv 0) (pa_cons pe_int pa_nil))) pa_nil)) pe_int) (pa_cons (pe_op op_add pe_int (pe_callTy call_int1 (by rfl) C.f_int (by decide +kernel) (pa_cons (pe_cl h__law_take (hr.mono (by decide)) (pa_cons (pv 0) (pa_cons pe_int pa_nil))) pa_nil))) (pa_cons (pe_op op_add pe_int (pe_callTy call_int1 (by rfl) C.f_int (by decide +kernel) (pa_cons (pe_cl h__law_take (hr.mono (by decide)) (pa_cons (pv 0) (pa_cons pe_int pa_nil))) pa_nil))) pa_nil))) (by rfl))
      (pss_cons (ps_set (i := 3) sc_law_start.nd rfl (.inl rfl) (pe_ifExp (pt_cmpR op_eq (pe_cl h__law_take (hr.mono (by decide)) (pa_cons (pv 0) (pa_cons pe_int pa_nil))) pe_int (nomark _)) (pe_un un_neg (pv 3)) (pv 3)))
      (pss_cons (ps_set (i := 5) sc_law_start.nd rfl (.inl rfl) (pe_callB call_abs (by rfl) C.f_abs (by decide +kernel) (pa_cons (pv 3) pa_nil)))
      (pss_cons (ps_set (i := 6) sc_law_start.nd rfl (.inl rfl) (pe_tup (pa_cons (pe_cl h__law_reduced (hr.mono (by decide)) (pa_cons (pe_ifExp (pt_cmpR op_gt (pv 3) pe_int (nomark _)) (pv 2) (pe_op op_sub pe_int (pv 2))) (pa_cons (pv 5) pa_nil))) (pa_cons (pe_cl h__law_reduced (hr.mono (by decide)) (pa_cons (pe_ifExp (pt_cmpR op_gt (pv 3) pe_int (nomark _)) (pv 4) (pe_op op_sub pe_int (pv 4))) (pa_cons (pv 5) pa_nil))) pa_nil))))
      (pss_one (ps_ret (pe_tup (pa_cons (pe_op op_mulW (pe_op op_mulW (pe_op op_mulW (pe_op op_mulW (pv 1) (pv 4)) (pv 4)) (pv 3)) (pv 3)) (pa_cons (pe_op op_mulW (pv 2) (pv 5)) (pa_cons (pe_op op_mulW (pv 3) (pv 5)) (pa_cons (pv 6) pa_nil))))))))))), fun p cs ds T h => ?_⟩
  obtain ⟨m, f, rfl, hm, hf, hp, hT⟩ := h
  refine ds_seq (ds_par3 (da_cons (de_opL (de_intI (de_take (Pg := Pg) rfl hp dp_int (by decide) (by decide) (by omega) fun k1 e1 k10 k11 h1 => ⟨k1, rfl, _, _, dp_int, r2_subE, ?_⟩)))))
  refine da_cons (de_opR dp_int (de_intI (de_take (Pg := Pg) rfl h1 dp_int (by decide) (by decide) (by omega) fun k2 e2 k20 k21 h2 => ⟨k2, rfl, _, r2_addE, ?_⟩)))
  refine da_cons (de_opR dp_int (de_intI (de_take (Pg := Pg) rfl h2 dp_int (by decide) (by decide) (by omega) fun k3 e3 k30 k31 h3 => ⟨k3, rfl, _, r2_addE, da_nil ⟨_, _, _, rfl, ?_⟩⟩)))
  refine ds_letE (DE.mono (Q := fun d ρ1 => ∃ (q : Int) (e4 : List D), d = .int q ∧ q ≠ 0 ∧ q.natAbs ≤ 12 ∧ PotN (m + 4) e4 ∧ ρ1 = [.ce p e4, .va (.int (f : Int)), .va (.int (k1 - 20)), .va (.int (1 + k2)), .va (.int (1 + k3)), .no, .no]) (de_if (dt_test (de_op (de_take (Pg := Pg) rfl h3 dp_int (by decide) (by decide) (by omega) fun k4 e4 k40 k41 h4 => DE.of dp_int (r2_eqI ⟨_, rfl, ?_⟩))))) ?_)
  · by_cases z : k4 = 0
    · rw [if_pos (decide_eq_true z)]
      exact DE.of (dp_neg (dp_var rfl)) ⟨_, e4, rfl, by omega, by omega, h4, rfl⟩
    · rw [if_neg (by rw [decide_eq_false z]; decide)]
      exact DE.of (dp_var rfl) ⟨_, e4, rfl, by omega, by omega, h4, rfl⟩
  · rintro d ρ1 ⟨q, e4, rfl, q0, q12, h4, rfl⟩
    have qs : (q.natAbs : Int).natAbs < 2 ^ 4 := by omega
    have qz : (q.natAbs : Int) ≠ 0 := by omega
    have qs' : q.natAbs < 2 ^ 4 := by omega
    have bs : (1 + k3).natAbs < 2 ^ 4 := by omega
    have fs : ((f : Nat) : Int).natAbs < 2 ^ 7 := nat_lt2 (by omega)
    have fb := mul_lt2 fs bs
    have fbb := mul_lt2 fb bs
    have fbbq := mul_lt2 fbb qs'
    have ps : (k1 - 20).natAbs < 2 ^ 6 := by omega
    refine ds_let (dp_abs (dp_var rfl)) ?_
    refine ds_let (dp_tup (dap_cons (dp_call (dap_cons (dp_ite (p := 0 < q) (d := .int (k1 - 20)) (e := .int (0 - (k1 - 20))) (dtp_test (dp_gt (dp_var rfl) dp_int)) (fun _ => dp_var rfl) (fun _ => dp_sub dp_int (dp_var rfl)) |>.is (e := .int (if 0 < q then k1 - 20 else 0 - (k1 - 20))) (by split <;> rfl)) (dap_cons (dp_var rfl) dap_nil)) ⟨_, _, 20, rfl, qz, by split <;> omega, by omega, by decide, rfl⟩) (dap_cons (dp_call (dap_cons (dp_ite (p := 0 < q) (d := .int (1 + k3)) (e := .int (0 - (1 + k3))) (dtp_test (dp_gt (dp_var rfl) dp_int)) (fun _ => dp_var rfl) (fun _ => dp_sub dp_int (dp_var rfl)) |>.is (e := .int (if 0 < q then 1 + k3 else 0 - (1 + k3))) (by split <;> rfl)) (dap_cons (dp_var rfl) dap_nil)) ⟨_, _, 20, rfl, qz, by split <;> omega, by omega, by decide, rfl⟩) dap_nil))) ?_
    refine ds_retp (dp_tup (dap_cons (dp_mul (dp_mul (dp_mul (dp_mul (dp_var rfl) (dp_var rfl) (cmul fs bs (by decide))) (dp_var rfl) (cmul fb bs (by decide))) (dp_var rfl) (cmul fbb qs' (by decide))) (dp_var rfl) (cmul fbbq qs' (by decide))) (dap_cons (dp_mul (dp_var rfl) (dp_var rfl) (cmul ps qs (by decide))) (dap_cons (dp_mul (dp_var rfl) (dp_var rfl) (cmul qs' qs (by decide))) (dap_cons (dp_var rfl) dap_nil))))) ⟨e4, rfl, ?_⟩
    have ok := start_ok (f := f) (p := k1 - 20) (q := q) (by_ := 1 + k3) q0 (by omega)
    have e1 : (f : Int) * (1 + k3) * (1 + k3) * q * q = ((f * (1 + k3).natAbs * (1 + k3).natAbs * q.natAbs * q.natAbs : Nat) : Int) := by
      have h1 : ((1 + k3).natAbs : Int) = 1 + k3 := by omega
      have h2 : (q.natAbs : Int) * (q.natAbs : Int) = q * q := Int.natAbs_mul_self
      simp only [Int.natCast_mul, h1]
      rw [Int.mul_assoc _ (q.natAbs : Int), h2]
      grind
    have e2 := start_q (p := k1 - 20) q0
    have e3 : Rat.divInt (if 0 < q then 1 + k3 else 0 - (1 + k3)) (q.natAbs : Int) = (((1 + k3).natAbs * q.natAbs : Nat) : Rat) / ((q * q.natAbs : Int) : Rat) := by
      rw [start_q (p := 1 + k3) q0]
      congr 1
      have h1 : ((1 + k3).natAbs : Int) = 1 + k3 := by omega
      rw [← Rat.intCast_natCast, Int.natCast_mul, h1]
    rw [e1, e2, e3]
    refine hT _ _ _ _ e4 ok ?_ ?_ ?_ h4
    · have t1 : f * (1 + k3).natAbs ≤ 64 * 9 := Nat.mul_le_mul hf (by omega)
      have t2 : f * (1 + k3).natAbs * (1 + k3).natAbs ≤ 64 * 9 * 9 := Nat.mul_le_mul t1 (by omega)
      have t3 := Nat.mul_le_mul t2 q12
      have t4 := Nat.mul_le_mul t3 q12
      omega
    · rw [Int.natAbs_mul]
      have t1 : (k1 - 20).natAbs * (q.natAbs : Int).natAbs ≤ 20 * 12 := Nat.mul_le_mul (by omega) (by omega)
      omega
    · rw [Int.natAbs_mul]
      have t1 : q.natAbs * (q.natAbs : Int).natAbs ≤ 12 * 12 := Nat.mul_le_mul (by omega) (by omega)
      omega
def c_law_is_near : Call := fun ds T => ∃ (f : Nat) (a b : Rat) (t l e : Int) (_ : NSq (f : Rat)), ds = [.int (f : Int), eQ a b, .int t, .int l] ∧ Fd f ∧ Sd f a b ∧ f < 2 ^ 800 ∧ 1 < f ∧ 1 ≤ l ∧ t.natAbs < 2 ^ 450 ∧ l.natAbs < 2 ^ 450 ∧ Near (f := f) ⟨a, b⟩ ((t : Rat) / (l : Rat)) (l : Rat) e ∧ T (.bool true)
theorem len_law_is_near {ds T} (h : c_law_is_near ds T) : ds.length = 4 := by obtain ⟨_, _, _, _, _, _, _, rfl, _⟩ := h; rfl
theorem near_div {t l : Int} (hl : 1 ≤ l) : (t : Rat) / (l : Rat) - 1 / ((l : Rat) * (l : Rat)) = Rat.divInt (t * l - 1) (l * l) ∧ (t : Rat) / (l : Rat) + 1 / ((l : Rat) * (l : Rat)) = Rat.divInt (t * l + 1) (l * l) := by
  have h1 := Rat.mul_inv_cancel _ (int_ne (show l ≠ 0 by omega))
  have h2 := Rat.mul_inv_cancel ((l : Rat) * (l : Rat)) (fun z => by rcases Rat.mul_eq_zero.mp z with y | y <;> exact int_ne (show l ≠ 0 by omega) y)
  constructor
  · rw [Rat.divInt_eq_div, Rat.intCast_sub, Rat.intCast_mul, Rat.intCast_mul, o1]
    simp only [Rat.div_def]
    grind
  · rw [Rat.divInt_eq_div, Rat.intCast_add, Rat.intCast_mul, Rat.intCast_mul, o1]
    simp only [Rat.div_def]
    grind
theorem szR_neg {n : Nat} {q : Rat} (h : SzR n q) : SzR n (-q) := ⟨by show (-q.num).natAbs < _; rw [Int.natAbs_neg]; exact h.1, h.2⟩
abbrev N_law_is_near : List Str := ["field", "one", "top", "low", "square", "below", "above"]
theorem sc_law_is_near : FnScope N_law_is_near ["field", "one", "top", "low"] (defScope s_law_is_near) := ⟨rfl, rfl, rfl, by decide +kernel, rfl, by decide +kernel, by decide +kernel⟩
set_option maxHeartbeats 2000000 in
theorem ok_law_is_near {Pg : Program} {w : World} {K : Fg} {mg : Str → Option Value} {base : Heap} (C : Cs K mg) (D0 : DfX K mg "_law_is_near" s_law_is_near ["field", "one", "top", "low"]) (h__law_sum : OkF Pg w K mg base "_law_sum" 2 ["one", "other"] (spP K c_law_sum)) (h__law_minus : OkF Pg w K mg base "_law_minus" 1 ["one"] (spP K c_law_minus)) (h__law_reduced : OkF Pg w K mg base "_law_reduced" 1 ["top", "low"] (spP K c_law_reduced)) (h_surd_compared : OkF Pg w K mg base "surd_compared" 7 ["field", "one", "other"] (spP K c_surd_compared)) : OkF Pg w K mg base "_law_is_near" 8 ["field", "one", "top", "low"] (spP K c_law_is_near) := by
  refine okP D0 sc_law_is_near (fun ds T h => len_law_is_near h) fun f cdv A outer s H E hr => ⟨_, (pss_cons (ps_set (i := 4) sc_law_is_near.nd rfl (.inl rfl) (pe_tup (pa_cons pe_int (pa_cons (pe_op op_mulW (pv 3) (pv 3)) pa_nil))))
      (pss_cons (ps_set (i := 5) sc_law_is_near.nd rfl (.inl rfl) (pe_tup (pa_cons (pe_cl h__law_sum (hr.mono (by decide)) (pa_cons (pe_cl h__law_reduced (hr.mono (by decide)) (pa_cons (pv 2) (pa_cons (pv 3) pa_nil))) (pa_cons (pe_cl h__law_minus (hr.mono (by decide)) (pa_cons (pv 4) pa_nil)) pa_nil))) (pa_cons (pe_tup (pa_cons pe_int (pa_cons pe_int pa_nil))) pa_nil))))
      (pss_cons (ps_set (i := 6) sc_law_is_near.nd rfl (.inl rfl) (pe_tup (pa_cons (pe_cl h__law_sum (hr.mono (by decide)) (pa_cons (pe_cl h__law_reduced (hr.mono (by decide)) (pa_cons (pv 2) (pa_cons (pv 3) pa_nil))) (pa_cons (pv 4) pa_nil))) (pa_cons (pe_tup (pa_cons pe_int (pa_cons pe_int pa_nil))) pa_nil))))
      (pss_one (ps_ret (pe_and (pe_cmpR op_eq (pe_cl h_surd_compared (hr.mono (by decide)) (pa_cons (pv 0) (pa_cons (pv 5) (pa_cons (pv 1) pa_nil)))) (pe_un un_neg pe_int) (nomark _)) (pe_one (pe_cmpR op_eq (pe_cl h_surd_compared (hr.mono (by decide)) (pa_cons (pv 0) (pa_cons (pv 1) (pa_cons (pv 6) pa_nil)))) (pe_un un_neg pe_int) (nomark _))))))))), fun ds T h => ?_⟩
  obtain ⟨f, a, b, t, l, e, _, rfl, hF, hS, hf, hf1, hl, ht, hl2, hN, hT⟩ := h
  have l0 : l ≠ 0 := by omega
  have ll0 : (0 : Int) < l * l := Int.mul_pos (by omega) (by omega)
  have lls : (l * l).natAbs < 2 ^ 900 := mul_lt2 hl2 hl2
  have tls : (t * l).natAbs < 2 ^ 900 := mul_lt2 ht hl2
  have one : (1 : Int).natAbs < 2 ^ 900 := by decide
  refine ds_let (DP.is (dp_tup (dap_cons dp_int (dap_cons (dp_mul (dp_var rfl) (dp_var rfl) (cmul hl2 hl2 (by decide))) dap_nil))) (eP_cop ll0 (by show Nat.gcd 1 _ = 1; exact Nat.gcd_one_left _))) ?_
  have sq : SzR 900 (Rat.divInt 1 (l * l)) := szR_divInt (by omega) one lls
  have st : SzR 450 (Rat.divInt t l) := szR_divInt l0 ht hl2
  obtain ⟨n1, n2⟩ := near_div (t := t) hl
  have es : Rat.divInt 1 (l * l) = 1 / ((l : Rat) * (l : Rat)) := by rw [Rat.divInt_eq_div, Rat.intCast_mul, o1]
  have et : Rat.divInt t l = (t : Rat) / (l : Rat) := Rat.divInt_eq_div _ _
  have eb : Rat.divInt t l + -Rat.divInt 1 (l * l) = Rat.divInt (t * l - 1) (l * l) := by rw [← n1, et, es]; grind
  have ea : Rat.divInt t l + Rat.divInt 1 (l * l) = Rat.divInt (t * l + 1) (l * l) := by rw [← n2, et, es]
  have snm : SzR 900 (-Rat.divInt 1 (l * l)) := szR_neg sq
  refine ds_let (DP.is (dp_tup (dap_cons (dp_call (dap_cons (dp_call (dap_cons (dp_var rfl) (dap_cons (dp_var rfl) dap_nil)) ⟨t, l, 450, rfl, l0, ht, hl2, by decide, rfl⟩) (dap_cons (dp_call (dap_cons (dp_var rfl) dap_nil) ⟨_, rfl, rfl⟩) dap_nil)) ⟨_, _, 450, 900, rfl, st, snm, by decide, rfl⟩) (dap_cons (dp_tup (dap_cons dp_int (dap_cons dp_int dap_nil))) dap_nil))) (e := eQ (Rat.divInt (t * l - 1) (l * l)) 0) (by rw [eb]; rfl)) ?_
  refine ds_let (DP.is (dp_tup (dap_cons (dp_call (dap_cons (dp_call (dap_cons (dp_var rfl) (dap_cons (dp_var rfl) dap_nil)) ⟨t, l, 450, rfl, l0, ht, hl2, by decide, rfl⟩) (dap_cons (dp_var rfl) dap_nil)) ⟨_, _, 450, 900, rfl, st, sq, by decide, rfl⟩) (dap_cons (dp_tup (dap_cons dp_int (dap_cons dp_int dap_nil))) dap_nil))) (e := eQ (Rat.divInt (t * l + 1) (l * l)) 0) (by rw [ea]; rfl)) ?_
  have sb : Sd f (Rat.divInt (t * l - 1) (l * l)) 0 := ⟨sz_told (szR_divInt (m := 901) (by omega) (sub_lt2 tls one) (lt2_mono lls (by decide))) (by decide), sz_told (szR_mono szR0 (by decide : 1 ≤ 990)) (by decide), hF.f1, .inl hf1⟩
  have sa : Sd f (Rat.divInt (t * l + 1) (l * l)) 0 := ⟨sz_told (szR_divInt (m := 901) (by omega) (add_lt2 tls one) (lt2_mono lls (by decide))) (by decide), sz_told (szR_mono szR0 (by decide : 1 ≤ 990)) (by decide), hF.f1, .inl hf1⟩
  have g1 : sgS f (Rat.divInt (t * l - 1) (l * l) - a) (0 - b) = -1 := sg_neg (by
    have h := hN.lo
    rw [n1] at h
    have : (⟨Rat.divInt (t * l - 1) (l * l) - a, 0 - b⟩ : QS (f : Rat)) = c (Rat.divInt (t * l - 1) (l * l)) - ⟨a, b⟩ := rfl
    rw [this]; grind)
  have g2 : sgS f (a - Rat.divInt (t * l + 1) (l * l)) (b - 0) = -1 := sg_neg (by
    have h := hN.up
    rw [n2] at h
    have : (⟨a - Rat.divInt (t * l + 1) (l * l), b - 0⟩ : QS (f : Rat)) = ⟨a, b⟩ - c (Rat.divInt (t * l + 1) (l * l)) := rfl
    rw [this]; grind)
  refine ds_retp (dp_andV (dp_eqI (dp_call (dap_cons (dp_var rfl) (dap_cons (dp_var rfl) (dap_cons (dp_var rfl) dap_nil))) ⟨f, _, _, _, _, rfl, hF, sb, hS, hf, rfl⟩) (dp_neg dp_int)) fun _ => dp_eqI (dp_call (dap_cons (dp_var rfl) (dap_cons (dp_var rfl) (dap_cons (dp_var rfl) dap_nil))) ⟨f, _, _, _, _, rfl, hF, hS, sa, hf, rfl⟩) (dp_neg dp_int)) ?_
  rw [g1, g2]
  exact hT

end H50
namespace H50
open PySem PySem.Spec PyProof.Rows L2 DL
open DL.QS
/-- where going on stands ahead of a lap -/
structure Lap (f r d : Nat) [NSq (f : Rat)] (x0 : QS (f : Rat)) (i : Nat) (P Q T1 T2 L1 L2 : Int) : Prop where
  ok : Ok f r d P Q
  hd : d < 1024 * 1024
  pb : P.natAbs < 2048 * (i + 1)
  qb : Q.natAbs < 256 + 2048 * i
  tb : T1.natAbs < 2 ^ (18 * i + 1) ∧ T2.natAbs < 2 ^ (18 * i + 1) ∧ L1.natAbs < 2 ^ (18 * i + 1) ∧ L2.natAbs < 2 ^ (18 * i + 1)
  cv : Cv x0 (xq f r P Q) T1 T2 L1 L2 (if i % 2 = 0 then 1 else -1)
  l1 : (i = 0 ∧ L1 = 0 ∧ L2 = 1) ∨ (1 ≤ L1 ∧ 0 ≤ L2 ∧ 1 < xq f r P Q)
theorem lap0 {f r d : Nat} [NSq (f : Rat)] {P Q : Int} (h : Ok f r d P Q) (hd : d < 1024 * 1024) (hP : P.natAbs < 1024) (hQ : Q.natAbs < 256) : Lap f r d (xq f r P Q) 0 P Q 1 0 0 1 where
  ok := h
  hd := hd
  pb := by omega
  qb := by omega
  tb := by decide
  cv := by
    refine ⟨?_, by decide⟩
    have h0 : (c ((0 : Int) : Rat) : QS (f : Rat)) = 0 := c_zero
    have h1 : (c ((1 : Int) : Rat) : QS (f : Rat)) = 1 := c_one
    rw [h0, h1]; grind
  l1 := .inl ⟨rfl, rfl, rfl⟩
section
variable {f r d : Nat} [NSq (f : Rat)] {x0 : QS (f : Rat)} {i : Nat} {P Q T1 T2 L1 L2 : Int}
theorem xq_lo {w : Int} {x : QS (f : Rat)} (h : 1 < x) (hw : Fl w x) : 1 ≤ w := by
  have h2 := hw.2
  have o : (c ((1 : Int) : Rat) : QS (f : Rat)) = 1 := c_one
  have : (c ((1 : Int) : Rat) : QS (f : Rat)) < c ((w + 1 : Int) : Rat) := by
    rw [Rat.intCast_add, o1, c_one]; grind
  have := c_ltI.mp this
  omega
/-- what a lap brings -/
structure LapN (f r d : Nat) [NSq (f : Rat)] (x0 : QS (f : Rat)) (i : Nat) (P Q T1 T2 L1 L2 w P' Q' : Int) : Prop where
  st : StepOk f r d P Q w P' Q'
  next : Lap f r d x0 (i + 1) P' Q' (w * T1 + T2) T1 (w * L1 + L2) L1
  wb : w.natAbs < 2 ^ 17
  near : Near x0 (((w * T1 + T2 : Int) : Rat) / ((w * L1 + L2 : Int) : Rat)) ((w * L1 + L2 : Int) : Rat) (-(if i % 2 = 0 then 1 else -1))
  l0 : 1 ≤ w * L1 + L2
  qb : Q.natAbs < 2 ^ 16
  pb : P.natAbs < 2 ^ 16
  qb' : Q'.natAbs < 2 ^ 16
  pb' : P'.natAbs < 2 ^ 16
theorem grow18 {w a b : Int} {i : Nat} (hw : w.natAbs < 2 ^ 17) (ha : a.natAbs < 2 ^ (18 * i + 1)) (hb : b.natAbs < 2 ^ (18 * i + 1)) : (w * a + b).natAbs < 2 ^ (18 * (i + 1) + 1) := by
  have h1 := mul_lt2 hw ha
  have h2 := add_lt2 (m := 17 + (18 * i + 1)) h1 (lt2_mono hb (by omega))
  exact lt2_mono h2 (by omega)
theorem lap_next (h : Lap f r d x0 i P Q T1 T2 L1 L2) (hi : i < 24) : LapN f r d x0 i P Q T1 T2 L1 L2 (lawFl d P Q) (lawFl d P Q * Q - P) (((d : Int) - (lawFl d P Q * Q - P) * (lawFl d P Q * Q - P)).fdiv Q) := by
  have fl := lawFl_fl (f := f) h.ok
  have st := step_ok h.ok fl
  obtain ⟨b1, b2⟩ := step_lt h.ok st h.hd
  have hpb := h.pb
  have hqb := h.qb
  have q0 := h.ok.q0
  have hw2 : (lawFl d P Q * Q).natAbs < 2 ^ 17 := by
    have : lawFl d P Q * Q = (lawFl d P Q * Q - P) + P := by omega
    omega
  generalize lawFl d P Q = w at *
  have hw : w.natAbs < 2 ^ 17 := by
    rw [Int.natAbs_mul] at hw2
    have := Nat.le_mul_of_pos_right w.natAbs (show 0 < Q.natAbs by omega)
    omega
  generalize hP' : w * Q - P = P' at *
  generalize ((d : Int) - P' * P').fdiv Q = Q' at *
  obtain ⟨t1, t2, t3, t4⟩ := h.tb
  have l0 : 1 ≤ w * L1 + L2 ∧ 0 ≤ L1 := by
    rcases h.l1 with ⟨_, rfl, rfl⟩ | ⟨a1, a2, a3⟩
    · omega
    · have w1 := xq_lo a3 fl
      have := Int.mul_le_mul w1 a1 (by omega) (by omega)
      omega
  have y1 : 1 < xq f r P' Q' := by
    have p0 := st.p0
    have p1 := st.p1
    have hv := st.inv
    refine mul_lt_of p0 ?_
    rw [hv]; grind
  have cv := cv_step h.cv st.inv
  have ee : -(if i % 2 = 0 then (1 : Int) else -1) = (if (i + 1) % 2 = 0 then 1 else -1) := by
    by_cases z : i % 2 = 0
    · rw [if_pos z, if_neg (by omega)]
    · rw [if_neg z, if_pos (by omega)]; rfl
  refine ⟨st, ⟨st.ok, h.hd, by omega, by omega, ⟨grow18 hw t1 t2, lt2_mono t1 (by omega), grow18 hw t3 t4, lt2_mono t3 (by omega)⟩, by rw [← ee]; exact cv, .inr ⟨l0.1, l0.2, y1⟩⟩, hw, cv_near cv (by split <;> decide) l0.1 l0.2 y1, l0.1, by omega, by omega, by omega, by omega⟩
end
theorem sz_ratio {P Q : Int} {m : Nat} (h : Q ≠ 0) (h1 : P.natAbs < 2 ^ m) (h2 : Q.natAbs < 2 ^ m) : SzR m ((P : Rat) / (Q : Rat)) := by
  rw [← Rat.divInt_eq_div]; exact szR_divInt h h1 h2
theorem sz_rn {r : Nat} {Q : Int} {m : Nat} (h : Q ≠ 0) (h1 : r < 2 ^ m) (h2 : Q.natAbs < 2 ^ m) : SzR m ((r : Rat) / (Q : Rat)) := by
  have := sz_ratio (P := (r : Int)) h (nat_lt2 h1) h2
  rw [Rat.intCast_natCast] at this
  exact this

end H50
namespace H50
open PySem PySem.Spec PyProof.Rows L2 DL
open DL.QS
def c_law_goes_on : CallC := fun cs ds T => ∃ (m f : Nat) (_ : NSq (f : Rat)), ds = [.int (f : Int)] ∧ m < 800000 ∧ 1 < f ∧ f ≤ 64 ∧ Fd f ∧ PotN m cs ∧ ∀ es, PotN (m + 4) es → T (.bool true) es
theorem len_law_goes_on {cs ds T} (h : c_law_goes_on cs ds T) : ds.length + 1 = 2 := by obtain ⟨_, _, _, rfl, _⟩ := h; rfl
theorem len2 {xs : List D} {a b : D} (h : xs.length ≤ 24) : (xs ++ [a] ++ [b]).length < sizeLine := by
  rw [List.length_append, List.length_append]
  exact Nat.lt_of_le_of_lt (show xs.length + 1 + 1 ≤ 30 by omega) (by decide)
def eQs (l : List (Rat × Rat)) : List D := l.map fun x => eQ x.1 x.2
theorem lay_eQs : ∀ l : List (Rat × Rat), PyData.canLayAll0 (eQs l) = true ∧ PyData.depthAll (eQs l) ≤ 2
  | [] => ⟨rfl, Nat.zero_le _⟩
  | x :: l => by
    obtain ⟨a, b⟩ := lay_eQs l
    have e : eQs (x :: l) = eQ x.1 x.2 :: eQs l := rfl
    rw [e]
    constructor
    · show (PyData.canLay0 (eQ x.1 x.2) && PyData.canLayAll0 (eQs l)) = true
      rw [a]; rfl
    · show max (PyData.depth (eQ x.1 x.2)) (PyData.depthAll (eQs l)) ≤ 2
      exact Nat.max_le.mpr ⟨Nat.le_refl 2, b⟩
theorem sh_eQs (l : List (Rat × Rat)) : SeqAt.shaped (.list (eQs l)) = true := by
  obtain ⟨a, b⟩ := lay_eQs l
  show (PyData.canLayAll0 (eQs l) && decide (PyData.depth (.list (eQs l)) ≤ 64)) = true
  rw [a]
  have e : PyData.depth (.list (eQs l)) = PyData.depthAll (eQs l) + 1 := rfl
  exact decide_eq_true (by omega)
theorem mine_eq {P Q : Int} {r : Nat} (hQ : Q ≠ 0) : (((if 0 < Q then 1 else -1) * P : Int) : Rat) * Rat.divInt 1 (Q.natAbs : Int) = (P : Rat) / (Q : Rat) ∧ (if (0 : Int) < (if 0 < Q then 1 else -1) then (((r : Int) : Rat) / ((Q.natAbs : Int) : Rat)) else -(((r : Int) : Rat) / ((Q.natAbs : Int) : Rat))) = (r : Rat) / (Q : Rat) := by
  have h1 := Rat.mul_inv_cancel (Q : Rat) (int_ne hQ)
  have h2 := Rat.mul_inv_cancel (-(Q : Rat)) (by have := int_ne hQ; grind)
  have er : ((r : Int) : Rat) = (r : Rat) := Rat.intCast_natCast r
  rw [Rat.divInt_eq_div, o1, er]
  by_cases z : 0 < Q
  · rw [if_pos z, if_pos (by decide), Int.one_mul]
    have : (Q.natAbs : Int) = Q := by omega
    rw [this, Rat.div_def, Rat.div_def, Rat.one_mul]
    exact ⟨rfl, rfl⟩
  · rw [if_neg z, if_neg (by decide)]
    have : (Q.natAbs : Int) = -Q := by omega
    have m1 : ((-1 * P : Int) : Rat) = -(P : Rat) := by rw [Int.neg_one_mul, Rat.intCast_neg]
    rw [this, Rat.div_def, Rat.div_def, Rat.div_def, Rat.div_def, Rat.one_mul, Rat.intCast_neg, m1]
    constructor <;> grind
theorem divR {d r f : Nat} (h : d = r * r * f) (hf : 0 < f) : Float64.isqrt (d / f) = r := by
  rw [h, Nat.mul_div_cancel _ hf]
  refine isqrt_uniq (Nat.le_refl _) ?_
  have : (r + 1) * (r + 1) = r * r + r + r + 1 := by grind
  omega
def goR (p : Addr) (pot : List D) (f d : Nat) (P Q : Int) (one here first : D) (p7 p8 p9 : Addr) (seen tops lows : List D) (s11 s12 s13 s14 s15 s16 s17 s18 s19 : Sl) : List Sl :=
  [.ce p pot, .va (.int (f : Int)), .va (.int (d : Int)), .va (.int P), .va (.int Q), .va one, .va here, .ce p7 seen, .ce p8 tops, .ce p9 lows, .va first, s11, s12, s13, s14, s15, s16, s17, s18, s19]
abbrev N_law_goes_on : List Str := ["pot", "field", "d", "p", "q", "one", "here", "seen", "tops", "lows", "first", "lap", "whole", "side", "rest", "later", "size", "sign", "root", "mine"]
theorem sc_law_goes_on : FnScope N_law_goes_on ["pot", "field"] (defScope s_law_goes_on) := ⟨rfl, rfl, rfl, by decide +kernel, rfl, by decide +kernel, by decide +kernel⟩
set_option maxHeartbeats 2000000 in
theorem ok_law_goes_on {Pg : Program} {w : World} {K : Fg} {mg : Str → Option Value} {base : Heap} (C : Cs K mg) (D0 : DfX K mg "_law_goes_on" s_law_goes_on ["pot", "field"]) (h__law_start : OkF Pg w K mg base "_law_start" 2 ["pot", "field"] (spC K c_law_start)) (h__law_floor : OkF Pg w K mg base "_law_floor" 2 ["field", "p", "q"] (spP K c_law_floor)) (h_surd_rounded : OkF Pg w K mg base "surd_rounded" 6 ["field", "one"] (spP K c_surd_rounded)) (h__law_is_near : OkF Pg w K mg base "_law_is_near" 8 ["field", "one", "top", "low"] (spP K c_law_is_near)) (h_surd_compared : OkF Pg w K mg base "surd_compared" 7 ["field", "one", "other"] (spP K c_surd_compared)) (h__law_reduced : OkF Pg w K mg base "_law_reduced" 1 ["top", "low"] (spP K c_law_reduced)) (h_surd_sum : OkF Pg w K mg base "surd_sum" 7 ["field", "one", "other"] (spP K c_surd_sum)) (h_surd_parted : OkF Pg w K mg base "surd_parted" 7 ["field", "one", "other"] (spP K c_surd_parted)) (h__law_parted : OkF Pg w K mg base "_law_parted" 2 ["one", "other"] (spP K c_law_parted)) (h__law_floor_root : OkF Pg w K mg base "_law_floor_root" 1 ["number"] (spP K c_law_floor_root)) (h__law_minus : OkF Pg w K mg base "_law_minus" 1 ["one"] (spP K c_law_minus)) (h__law_times : OkF Pg w K mg base "_law_times" 2 ["one", "other"] (spP K c_law_times)) (h_surd_between : OkF Pg w K mg base "surd_between" 8 ["field", "one", "other"] (spP K c_surd_between)) : OkF Pg w K mg base "_law_goes_on" 9 ["pot", "field"] (spC K c_law_goes_on) := by
  refine okC D0 sc_law_goes_on (fun cs ds T h => len_law_goes_on h) fun f cdv A outer s H E hr => ⟨_, (pss_cons (ps_asg (pe_cl h__law_start (hr.mono (by decide)) (pa_cons (pv 0) (pa_cons (pv 1) pa_nil))) (pg_tup rfl (pgs_cons (pg_name (i := 2) sc_law_goes_on.nd rfl (.inl rfl)) (pgs_cons (pg_name (i := 3) sc_law_goes_on.nd rfl (.inl rfl)) (pgs_cons (pg_name (i := 4) sc_law_goes_on.nd rfl (.inl rfl)) (pgs_cons (pg_name (i := 5) sc_law_goes_on.nd rfl (.inl rfl)) pgs_nil))))))
      (pss_cons (ps_asg (pe_tup (pa_cons (pv 5) (pa_cons (pe_lst pa_nil) (pa_cons (pe_lst (pa_cons pe_int (pa_cons pe_int pa_nil))) (pa_cons (pe_lst (pa_cons pe_int (pa_cons pe_int pa_nil))) (pa_cons (pv 5) pa_nil)))))) (pg_tup rfl (pgs_cons (pg_name (i := 6) sc_law_goes_on.nd rfl (.inl rfl)) (pgs_cons (pg_name (i := 7) sc_law_goes_on.nd rfl (.inl rfl)) (pgs_cons (pg_name (i := 8) sc_law_goes_on.nd rfl (.inl rfl)) (pgs_cons (pg_name (i := 9) sc_law_goes_on.nd rfl (.inl rfl)) (pgs_cons (pg_name (i := 10) sc_law_goes_on.nd rfl (.inl rfl)) pgs_nil)))))))
      (pss_cons (ps_for PassesOwn.never rfl (pi_range1 (by rfl) C.f_range (pa_cons pe_int pa_nil)) (pg_name (i := 11) sc_law_goes_on.nd rfl (.inl rfl))
        (pss_cons (ps_set (i := 12) sc_law_goes_on.nd rfl (.inl rfl) (pe_cl h__law_floor (hr.mono (by decide)) (pa_cons (pv 2) (pa_cons (pv 3) (pa_cons (pv 4) pa_nil)))))
        (pss_cons (ps_if (pt_cmpR op_ne (pe_cl h_surd_rounded (hr.mono (by decide)) (pa_cons (pv 1) (pa_cons (pv 6) pa_nil))) (pv 12) (nomark _))
          (pss_one (ps_ret pe_bl))
          pss_nil)
        (pss_cons (ps_expr (pe_bm PySem.F.plainAttrs_list PySem.F.slot_list_append PySem.F.type_list_append mt_append (pv 8) (pa_cons (pe_op op_add (pe_op op_mulW (pv 12) (pe_ix ix_list (pv 8) (pe_un un_neg pe_int) (fun _ _ => rfl))) (pe_ix ix_list (pv 8) (pe_un un_neg pe_int) (fun _ _ => rfl))) pa_nil)))
        (pss_cons (ps_expr (pe_bm PySem.F.plainAttrs_list PySem.F.slot_list_append PySem.F.type_list_append mt_append (pv 9) (pa_cons (pe_op op_add (pe_op op_mulW (pv 12) (pe_ix ix_list (pv 9) (pe_un un_neg pe_int) (fun _ _ => rfl))) (pe_ix ix_list (pv 9) (pe_un un_neg pe_int) (fun _ _ => rfl))) pa_nil)))
        (pss_cons (ps_if (PW.pt (pw_and (pt_cmpR op_gt (pe_ix ix_list (pv 9) (pe_un un_neg pe_int) (fun _ _ => rfl)) pe_int (nomark _)) (pw_and1 (pt_not (pt_val (pe_cl h__law_is_near (hr.mono (by decide)) (pa_cons (pv 1) (pa_cons (pv 10) (pa_cons (pe_ix ix_list (pv 8) (pe_un un_neg pe_int) (fun _ _ => rfl)) (pa_cons (pe_ix ix_list (pv 9) (pe_un un_neg pe_int) (fun _ _ => rfl)) pa_nil))))))))))
          (pss_one (ps_ret pe_bl))
          pss_nil)
        (pss_cons (ps_set (i := 13) sc_law_goes_on.nd rfl (.inl rfl) (pe_cl h_surd_compared (hr.mono (by decide)) (pa_cons (pv 1) (pa_cons (pe_tup (pa_cons (pe_cl h__law_reduced (hr.mono (by decide)) (pa_cons (pe_ix ix_list (pv 8) (pe_un un_neg pe_int) (fun _ _ => rfl)) (pa_cons (pe_ix ix_list (pv 9) (pe_un un_neg pe_int) (fun _ _ => rfl)) pa_nil))) (pa_cons (pe_tup (pa_cons pe_int (pa_cons pe_int pa_nil))) pa_nil))) (pa_cons (pv 10) pa_nil)))))
        (pss_cons (ps_if (pt_cmpR op_ne (pv 13) (pe_ifExp (pt_cmpR op_eq (pe_op op_modN (pv 11) pe_int) pe_int (nomark _)) (pe_un un_neg pe_int) pe_int) (nomark _))
          (pss_one (ps_ret pe_bl))
          pss_nil)
        (pss_cons (ps_set (i := 14) sc_law_goes_on.nd rfl (.inl rfl) (pe_cl h_surd_sum (hr.mono (by decide)) (pa_cons (pv 1) (pa_cons (pv 6) (pa_cons (pe_tup (pa_cons (pe_tup (pa_cons (pe_op op_sub pe_int (pv 12)) (pa_cons pe_int pa_nil))) (pa_cons (pe_tup (pa_cons pe_int (pa_cons pe_int pa_nil))) pa_nil))) pa_nil)))))
        (pss_cons (ps_if (PW.pt (pw_or (pt_cmpR op_ne (pe_cl h_surd_compared (hr.mono (by decide)) (pa_cons (pv 1) (pa_cons (pv 14) (pa_cons (pe_tup (pa_cons (pe_tup (pa_cons pe_int (pa_cons pe_int pa_nil))) (pa_cons (pe_tup (pa_cons pe_int (pa_cons pe_int pa_nil))) pa_nil))) pa_nil)))) pe_int (nomark _)) (pw_or1 (pt_cmpR op_ne (pe_cl h_surd_compared (hr.mono (by decide)) (pa_cons (pv 1) (pa_cons (pv 14) (pa_cons (pe_tup (pa_cons (pe_tup (pa_cons pe_int (pa_cons pe_int pa_nil))) (pa_cons (pe_tup (pa_cons pe_int (pa_cons pe_int pa_nil))) pa_nil))) pa_nil)))) (pe_un un_neg pe_int) (nomark _)))))
          (pss_one (ps_ret pe_bl))
          pss_nil)
        (pss_cons (ps_set (i := 15) sc_law_goes_on.nd rfl (.inl rfl) (pe_cl h_surd_parted (hr.mono (by decide)) (pa_cons (pv 1) (pa_cons (pe_tup (pa_cons (pe_tup (pa_cons pe_int (pa_cons pe_int pa_nil))) (pa_cons (pe_tup (pa_cons pe_int (pa_cons pe_int pa_nil))) pa_nil))) (pa_cons (pv 14) pa_nil)))))
        (pss_cons (ps_set (i := 3) sc_law_goes_on.nd rfl (.inl rfl) (pe_op op_sub (pe_op op_mulW (pv 12) (pv 4)) (pv 3)))
        (pss_cons (ps_set (i := 4) sc_law_goes_on.nd rfl (.inl rfl) (pe_op op_fdivX (pe_op op_sub (pv 2) (pe_op op_mulW (pv 3) (pv 3))) (pv 4)))
        (pss_cons (ps_set (i := 16) sc_law_goes_on.nd rfl (.inl rfl) (pe_cl h__law_reduced (hr.mono (by decide)) (pa_cons pe_int (pa_cons (pe_callB call_abs (by rfl) C.f_abs (by decide +kernel) (pa_cons (pv 4) pa_nil)) pa_nil))))
        (pss_cons (ps_set (i := 17) sc_law_goes_on.nd rfl (.inl rfl) (pe_ifExp (pt_cmpR op_gt (pv 4) pe_int (nomark _)) pe_int (pe_un un_neg pe_int)))
        (pss_cons (ps_set (i := 18) sc_law_goes_on.nd rfl (.inl rfl) (pe_cl h__law_parted (hr.mono (by decide)) (pa_cons (pe_tup (pa_cons (pe_cl h__law_floor_root (hr.mono (by decide)) (pa_cons (pe_op op_fdivX (pv 2) (pv 1)) pa_nil)) (pa_cons pe_int pa_nil))) (pa_cons (pe_tup (pa_cons (pe_callB call_abs (by rfl) C.f_abs (by decide +kernel) (pa_cons (pv 4) pa_nil)) (pa_cons pe_int pa_nil))) pa_nil))))
        (pss_cons (ps_set (i := 19) sc_law_goes_on.nd rfl (.inl rfl) (pe_tup (pa_cons (pe_cl h__law_times (hr.mono (by decide)) (pa_cons (pe_tup (pa_cons (pe_op op_mulW (pv 17) (pv 3)) (pa_cons pe_int pa_nil))) (pa_cons (pv 16) pa_nil))) (pa_cons (pe_ifExp (pt_cmpR op_gt (pv 17) pe_int (nomark _)) (pv 18) (pe_cl h__law_minus (hr.mono (by decide)) (pa_cons (pv 18) pa_nil))) pa_nil))))
        (pss_cons (ps_if (pt_cmpR (op_neD hr.units) (pv 15) (pv 19) (nomark _))
          (pss_one (ps_ret pe_bl))
          pss_nil)
        (pss_cons (ps_if (pt_cmpR (op_inD (runits hr)) (pv 15) (pv 7) rfl)
          (pss_one (ps_ret (pe_cmpR op_gt (pe_ix ix_tup (pe_cl h_surd_between (hr.mono (by decide)) (pa_cons (pv 1) (pa_cons (pv 14) (pa_cons (pe_tup (pa_cons (pe_tup (pa_cons pe_int (pa_cons pe_int pa_nil))) (pa_cons (pe_tup (pa_cons pe_int (pa_cons pe_int pa_nil))) pa_nil))) pa_nil)))) pe_int (fun _ _ => rfl)) pe_int (nomark _))))
          pss_nil)
        (pss_cons (ps_expr (pe_bm PySem.F.plainAttrs_list PySem.F.slot_list_append PySem.F.type_list_append mt_append (pv 7) (pa_cons (pv 15) pa_nil)))
        (pss_one (ps_set (i := 6) sc_law_goes_on.nd rfl (.inl rfl) (pv 15)))))))))))))))))))))))
      (pss_one (ps_ret pe_bl))))), fun p cs ds T h => ?_⟩
  obtain ⟨m, f, _, rfl, hm, hf1, hf, hF, hp, hT⟩ := h
  have fk : f < 2 ^ 7 := by omega
  have f800 : f < 2 ^ 800 := Nat.lt_of_lt_of_le fk (Nat.pow_le_pow_right (by decide) (by decide))
  have sd : ∀ {a b : Rat} {m : Nat}, SzR m a → SzR m b → m ≤ 990 → Sd f a b := fun ha hb h => ⟨sz_told ha h, sz_told hb h, hF.f1, .inl hf1⟩
  refine ds_seq (ds_asg (de_callC rfl (DA.of (dap_cons (dp_var rfl) dap_nil) ⟨cs, rfl, m, f, rfl, by omega, hf, hp, fun d r P0 Q0 es hok hd hP hQ hes => ?_⟩)))
  refine dg_tup (dgs_cons (dg_name (dgs_cons (dg_name (dgs_cons (dg_name (dgs_cons (dg_name (dgs_nil ?_))))))))) rfl
  refine ds_tupX [6, 7, 8, 9, 10] (its := [.va (eQ ((P0 : Rat) / (Q0 : Rat)) ((r : Rat) / (Q0 : Rat))), .ne [], .ne [.int 0, .int 1], .ne [.int 1, .int 0], .va (eQ ((P0 : Rat) / (Q0 : Rat)) ((r : Rat) / (Q0 : Rat)))]) (dax_cons (dp_var rfl) (dax_cons (dx_lst dap_nil) (dax_cons (dx_lst (dap_cons dp_int (dap_cons dp_int dap_nil))) (dax_cons (dx_lst (dap_cons dp_int (dap_cons dp_int dap_nil))) (dax_cons (dp_var rfl) dax_nil))))) rfl (by intro i hi; show i < 20; simp at hi; omega) (by show 5 ≤ sizeLine; decide) fun sx hsx => ?_
  obtain ⟨p7, p8, p9, rfl⟩ : ∃ p7 p8 p9, sx = [.va (eQ ((P0 : Rat) / (Q0 : Rat)) ((r : Rat) / (Q0 : Rat))), .ce p7 [], .ce p8 [.int 0, .int 1], .ce p9 [.int 1, .int 0], .va (eQ ((P0 : Rat) / (Q0 : Rat)) ((r : Rat) / (Q0 : Rat)))] := by
    cases hsx with
    | cons h1 t => cases t with
      | cons h2 t => cases t with
        | cons h3 t => cases t with
          | cons h4 t => cases t with
            | cons h5 t =>
              cases t
              obtain ⟨p7, rfl⟩ := h2
              obtain ⟨p8, rfl⟩ := h3
              obtain ⟨p9, rfl⟩ := h4
              cases h1; cases h5
              exact ⟨p7, p8, p9, rfl⟩
  have L0 := lap0 hok hd hP hQ
  generalize hx0 : xq f r P0 Q0 = x0 at L0
  have x0e : x0 = ⟨(P0 : Rat) / (Q0 : Rat), (r : Rat) / (Q0 : Rat)⟩ := hx0.symm
  have sF : Sd f ((P0 : Rat) / (Q0 : Rat)) ((r : Rat) / (Q0 : Rat)) := by
    have rb : r < 2 ^ 16 := by
      have h2 := hok.hd
      apply Classical.byContradiction
      intro z
      have := Nat.mul_le_mul (show 1024 ≤ r by omega) (show 1024 ≤ r by omega)
      have := Nat.le_mul_of_pos_right (r * r) (show 0 < f by omega)
      omega
    exact sd (sz_ratio (m := 16) hok.q0 (by omega) (by omega)) (sz_rn hok.q0 rb (by omega)) (by decide)
  refine ds_forq (fun ρ' => ρ'[0]? = some (.ce p es)) (ds_for (fun _ i ρ' => ∃ (P Q T1 T2 L1 L2 : Int) (seen : List (Rat × Rat)) (tt ll : List D) (s11 s12 s13 s14 s15 s16 s17 s18 s19 : Sl), ρ' = goR p es f d P Q (eQ ((P0 : Rat) / (Q0 : Rat)) ((r : Rat) / (Q0 : Rat))) (eQ ((P : Rat) / (Q : Rat)) ((r : Rat) / (Q : Rat))) (eQ ((P0 : Rat) / (Q0 : Rat)) ((r : Rat) / (Q0 : Rat))) p7 p8 p9 (eQs seen) (tt ++ [.int T2] ++ [.int T1]) (ll ++ [.int L2] ++ [.int L1]) s11 s12 s13 s14 s15 s16 s17 s18 s19 ∧ Lap f r d x0 i P Q T1 T2 L1 L2 ∧ seen.length ≤ i ∧ tt.length ≤ i ∧ ll.length ≤ i) (di_rng1 (DA.of (dap_cons dp_int dap_nil) ⟨_, rfl, by decide, by decide, ⟨P0, Q0, 1, 0, 0, 1, [], [], [], .no, .no, .no, .no, .no, .no, .no, .no, .no, rfl, L0, Nat.le_refl _, Nat.le_refl _, Nat.le_refl _⟩, ?_, ?_⟩))) ?_
  · rintro i dl ρ2 hdl ⟨P, Q, T1, T2, L1, L2, seen, tt, ll, s11, s12, s13, s14, s15, s16, s17, s18, s19, rfl, hL, hn1, hn2, hn3⟩
    have hi : i < 24 := by
      have := (List.getElem?_eq_some_iff.mp hdl).1
      rw [List.length_map, List.length_range] at this
      exact this
    have hdl' : dl = .int (i : Int) := by
      rw [List.getElem?_map, List.getElem?_range (show i < (24 : Int).toNat from hi)] at hdl
      exact (Option.some.inj hdl).symm
    subst hdl'
    have N := lap_next hL hi
    have fl := lawFl_fl (f := f) hL.ok
    have hd' : d < 2 ^ 400 := Nat.lt_of_lt_of_le hL.hd (by decide)
    have Q0' := hL.ok.q0
    have Qb := N.qb
    have Pb := N.pb
    refine dg_name ?_
    generalize hP' : lawFl d P Q * Q - P = P' at N
    generalize hQ' : ((d : Int) - P' * P').fdiv Q = Q' at N
    have floorE : floorS f ((P : Rat) / (Q : Rat)) ((r : Rat) / (Q : Rat)) = lawFl d P Q := fl_uniq (floorS_fl (f := f) _ _) fl
    have wb := N.wb
    have rb : r < 2 ^ 16 := by
      have h1 := hL.hd
      have h2 := hL.ok.hd
      apply Classical.byContradiction
      intro z
      have := Nat.mul_le_mul (show 1024 ≤ r by omega) (show 1024 ≤ r by omega)
      have := Nat.le_mul_of_pos_right (r * r) (show 0 < f by omega)
      omega
    have za : SzR 16 ((P : Rat) / (Q : Rat)) := sz_ratio Q0' Pb Qb
    have zb : SzR 16 ((r : Rat) / (Q : Rat)) := sz_rn Q0' rb Qb
    refine ds_let (dp_call (dap_cons (dp_var rfl) (dap_cons (dp_var rfl) (dap_cons (dp_var rfl) dap_nil))) ⟨d, P, Q, rfl, hd', Q0', Nat.lt_of_lt_of_le Qb (Nat.pow_le_pow_right (by decide) (by decide)), rfl⟩) ?_
    refine ds_when (b := false) (DTP.is (dtp_test (dp_neI (dp_call (dap_cons (dp_var rfl) (dap_cons (dp_var rfl) dap_nil)) ⟨f, _, _, 16, 7, rfl, hF, sd za zb (by decide), fk, za, zb, by decide, rfl⟩) (dp_var rfl))) (by rw [floorE]; simp)) (fun z => nomatch z) fun _ => ?_
    generalize hw : lawFl d P Q = w at *
    obtain ⟨t1, t2, t3, t4⟩ := hL.tb
    have tw : ∀ {a : Int}, a.natAbs < 2 ^ (18 * i + 1) → a.natAbs < 2 ^ 440 := fun h => lt2_mono h (by omega)
    have wb' : w.natAbs < 2 ^ 440 := lt2_mono wb (by decide)
    refine ds_seq (ds_app rfl (dp_add (dp_mul (dp_var rfl) (dp_cixN rfl atI_last) (cmul wb' (tw t1) (by decide))) (dp_cixN rfl atI_last2)) (len2 (by omega)) ?_)
    refine ds_seq (ds_app rfl (dp_add (dp_mul (dp_var rfl) (dp_cixN rfl atI_last) (cmul wb' (tw t3) (by decide))) (dp_cixN rfl atI_last2)) (len2 (by omega)) ?_)
    obtain ⟨n1, n2, n3, n4⟩ := N.next.tb
    have tw2 : ∀ {a : Int}, a.natAbs < 2 ^ (18 * (i + 1) + 1) → a.natAbs < 2 ^ 450 := fun h => lt2_mono h (by omega)
    have hl1 := N.l0
    have hNear := N.near
    generalize hT' : w * T1 + T2 = T' at *
    generalize hL' : w * L1 + L2 = L' at *
    rw [x0e] at hNear
    refine ds_when (b := false) (DTP.is (dtp_and (dtp_test (dp_gt (dp_cixN rfl atI_last) dp_int)) fun _ => dtp_not (dtp_B (dp_call (dap_cons (dp_var rfl) (dap_cons (dp_var rfl) (dap_cons (dp_cixN rfl atI_last) (dap_cons (dp_cixN rfl atI_last) dap_nil)))) ⟨f, _, _, T', L', _, by assumption, rfl, hF, sF, f800, hf1, hl1, tw2 n1, tw2 n3, hNear, rfl⟩))) (Bool.and_false _)) (fun z => nomatch z) fun _ => ?_
    have hside : sgS f (Rat.divInt T' L' - (P0 : Rat) / (Q0 : Rat)) (0 - (r : Rat) / (Q0 : Rat)) = -(if i % 2 = 0 then 1 else -1) := by
      have hs := hNear.side
      rw [← Rat.divInt_eq_div] at hs
      have e : (c (Rat.divInt T' L') : QS (f : Rat)) - ⟨(P0 : Rat) / (Q0 : Rat), (r : Rat) / (Q0 : Rat)⟩ = ⟨Rat.divInt T' L' - (P0 : Rat) / (Q0 : Rat), 0 - (r : Rat) / (Q0 : Rat)⟩ := rfl
      rw [e] at hs
      by_cases z : i % 2 = 0
      · rw [if_pos z] at hs ⊢
        have o : (c ((-1 : Int) : Rat) : QS (f : Rat)) = -1 := rfl
        rw [o] at hs
        exact sg_neg (by grind)
      · rw [if_neg z] at hs ⊢
        have o : (c ((- -1 : Int) : Rat) : QS (f : Rat)) = 1 := c_one
        rw [o] at hs
        exact sg_pos (by grind)
    have l0 : L' ≠ 0 := by omega
    have sz0 : SzR 450 0 := szR_mono szR0 (by decide)
    have sTL : SzR 450 (Rat.divInt T' L') := szR_divInt l0 (tw2 n1) (tw2 n3)
    refine ds_let (DP.is (dp_call (dap_cons (dp_var rfl) (dap_cons (dp_tup (dap_cons (dp_call (dap_cons (dp_cixN rfl atI_last) (dap_cons (dp_cixN rfl atI_last) dap_nil)) ⟨T', L', 450, rfl, l0, tw2 n1, tw2 n3, by decide, rfl⟩) (dap_cons (dp_tup (dap_cons dp_int (dap_cons dp_int dap_nil))) dap_nil))) (dap_cons (dp_var rfl) dap_nil))) ⟨f, Rat.divInt T' L', 0, _, _, rfl, hF, sd sTL sz0 (by decide), sF, f800, rfl⟩) (by rw [hside])) ?_
    refine ds_when (b := false) (DTP.is (dtp_test (dp_neI (dp_var rfl) (dp_ite (p := i % 2 = 0) (d := .int (-1)) (e := .int 1) (DTP.is (dtp_test (dp_eqI (dp_mod (dp_var rfl) dp_int (by decide)) dp_int)) (decide_eq_decide.mpr (by
      rw [show ((2 : Int)) = ((2 : Nat) : Int) from rfl, fmod_nat]; omega))) (fun _ => dp_neg dp_int) (fun _ => dp_int) |>.is (e := .int (-(if i % 2 = 0 then 1 else -1))) (by split <;> rfl)))) (by simp)) (fun z => nomatch z) fun _ => ?_
    -- the rest
    have st := N.st
    have hrest := st.rest
    have ra : (P : Rat) / (Q : Rat) + ((0 - w : Int) : Rat) = (-(P' : Rat)) / (Q : Rat) := by
      have := congrArg QS.a hrest
      have e : (xq f r P Q - c (w : Rat)).a = (P : Rat) / (Q : Rat) - (w : Rat) := rfl
      rw [e] at this
      have e2 : ((0 - w : Int) : Rat) = -(w : Rat) := by rw [Int.zero_sub, Rat.intCast_neg]
      rw [e2]
      have e3 : ((-(P' : Rat)) / (Q : Rat)) = (P : Rat) / (Q : Rat) - (w : Rat) := this.symm
      rw [e3]; grind
    have rb0 : (r : Rat) / (Q : Rat) + 0 = (r : Rat) / (Q : Rat) := Rat.add_zero _
    have s0w : SzR 18 ((0 - w : Int) : Rat) := ⟨by
      show (0 - w).natAbs < _
      have : (2 : Nat) ^ 17 < 2 ^ 18 := by decide
      omega, by show 1 < 2 ^ 18; decide⟩
    refine ds_let (DP.is (dp_call (dap_cons (dp_var rfl) (dap_cons (dp_var rfl) (dap_cons (dp_tup (dap_cons (dp_tup (dap_cons (dp_sub dp_int (dp_var rfl)) (dap_cons dp_int dap_nil))) (dap_cons (dp_tup (dap_cons dp_int (dap_cons dp_int dap_nil))) dap_nil))) dap_nil))) ⟨f, _, _, ((0 - w : Int) : Rat), 0, rfl, hF, sd za zb (by decide), sd s0w (szR_mono szR0 (by decide)) (by decide), rfl⟩) (by rw [ra, rb0])) ?_
    have npe : (-(P' : Rat)) / (Q : Rat) = ((-P' : Int) : Rat) / (Q : Rat) := by rw [Rat.intCast_neg]
    have zra : SzR 16 ((-(P' : Rat)) / (Q : Rat)) := by
      rw [npe]; exact sz_ratio Q0' (by have := N.pb'; omega) Qb
    have p0 := st.p0
    have p1 := st.p1
    have hinv := st.inv
    rw [hrest] at p0 p1 hinv
    generalize hA : (-(P' : Rat)) / (Q : Rat) = A at *
    generalize hB : (r : Rat) / (Q : Rat) = B at *
    have c0 : sgS f (A - 0) (B - 0) = 1 := by
      rw [show A - 0 = A by grind, show B - 0 = B by grind]; exact sg_pos p0
    have c1 : sgS f (A - 1) (B - 0) = -1 := sg_neg (by
      have e : (⟨A - 1, B - 0⟩ : QS (f : Rat)) = ⟨A, B⟩ - 1 := rfl
      rw [e]; grind)
    have s01 : SzR 16 (0 : Rat) := szR_mono szR0 (by decide)
    have s11 : SzR 16 (1 : Rat) := ⟨by decide, by decide⟩
    refine ds_when (b := false) (DTP.is (dtp_or (dtp_test (dp_neI (dp_call (dap_cons (dp_var rfl) (dap_cons (dp_var rfl) (dap_cons (dp_tup (dap_cons (dp_tup (dap_cons dp_int (dap_cons dp_int dap_nil))) (dap_cons (dp_tup (dap_cons dp_int (dap_cons dp_int dap_nil))) dap_nil))) dap_nil))) ⟨f, A, B, 0, 0, rfl, hF, sd zra zb (by decide), sd s01 s01 (by decide), f800, rfl⟩) dp_int)) fun _ => dtp_test (dp_neI (dp_call (dap_cons (dp_var rfl) (dap_cons (dp_var rfl) (dap_cons (dp_tup (dap_cons (dp_tup (dap_cons dp_int (dap_cons dp_int dap_nil))) (dap_cons (dp_tup (dap_cons dp_int (dap_cons dp_int dap_nil))) dap_nil))) dap_nil))) ⟨f, A, B, 1, 0, rfl, hF, sd zra zb (by decide), sd s11 s01 (by decide), f800, rfl⟩) (dp_neg dp_int))) (by rw [c0, c1]; rfl)) (fun z => nomatch z) fun _ => ?_
    have dS := divS_eq hinv
    have nz := norm_of_inv hinv
    refine ds_let (DP.is (dp_call (dap_cons (dp_var rfl) (dap_cons (dp_tup (dap_cons (dp_tup (dap_cons dp_int (dap_cons dp_int dap_nil))) (dap_cons (dp_tup (dap_cons dp_int (dap_cons dp_int dap_nil))) dap_nil))) (dap_cons (dp_var rfl) dap_nil))) ⟨f, 1, 0, A, B, 16, 16, 7, rfl, hF, sd s11 s01 (by decide), sd zra zb (by decide), fk, s11, s01, zra, zb, by decide, by decide, nz, rfl⟩) (e := eQ ((P' : Rat) / (Q' : Rat)) ((r : Rat) / (Q' : Rat))) (by rw [dS]; rfl)) ?_
    have q0' := st.ok.q0
    have qb' := N.qb'
    have pb' := N.pb'
    have aq : (Q'.natAbs : Int).natAbs < 2 ^ 16 := by rw [Int.natAbs_natCast]; exact qb'
    have aq0 : (Q'.natAbs : Int) ≠ 0 := by omega
    refine ds_let (DP.is (dp_sub (dp_mul (dp_var rfl) (dp_var rfl) (cmul wb Qb (by decide))) (dp_var rfl)) (by rw [hP'])) ?_
    refine ds_let (DP.is (dp_div (dp_sub (dp_var rfl) (dp_mul (dp_var rfl) (dp_var rfl) (cmul pb' pb' (by decide)))) (dp_var rfl) (cdiv Q0' Qb (by decide))) (by rw [hQ'])) ?_
    refine ds_let (dp_call (dap_cons dp_int (dap_cons (dp_abs (dp_var rfl)) dap_nil)) ⟨1, (Q'.natAbs : Int), 16, rfl, aq0, by decide, aq, by decide, rfl⟩) ?_
    refine ds_let (dp_ite (p := 0 < Q') (d := .int 1) (e := .int (-1)) (dtp_test (dp_gt (dp_var rfl) dp_int)) (fun _ => dp_int) (fun _ => dp_neg dp_int) |>.is (e := .int (if 0 < Q' then 1 else -1)) (by split <;> rfl)) ?_
    obtain ⟨me1, me2⟩ := mine_eq (P := P') (r := r) q0'
    have sgb : (if 0 < Q' then (1 : Int) else -1).natAbs < 2 ^ 1 := by split <;> decide
    generalize hsg : (if 0 < Q' then (1 : Int) else -1) = sg at *
    have rS : SzR 16 (((r : Nat) : Int) : Rat) := ⟨nat_lt2 rb, by show 1 < 2 ^ 16; decide⟩
    have qS : SzR 16 (((Q'.natAbs : Nat) : Int) : Rat) := ⟨aq, by show 1 < 2 ^ 16; decide⟩
    have pS : SzR 17 ((sg * P' : Int) : Rat) := ⟨by show (sg * P').natAbs < _; exact lt2_mono (mul_lt2 sgb pb') (by decide), by show 1 < 2 ^ 17; decide⟩
    have fd : CDivX (d : Int) (f : Int) := cdiv (by omega) (nat_lt2 fk) (by decide)
    refine ds_let (dp_call (dap_cons (dp_tup (dap_cons (DP.is (dp_call (dap_cons (DP.is (dp_div (dp_var rfl) (dp_var rfl) fd) (by rw [fdiv_nat])) dap_nil) ⟨d / f, rfl, Nat.lt_of_le_of_lt (Nat.div_le_self _ _) hd', rfl⟩) (by rw [divR hL.ok.hd (by omega)]; rfl)) (dap_cons dp_int dap_nil))) (dap_cons (dp_tup (dap_cons (dp_abs (dp_var rfl)) (dap_cons dp_int dap_nil))) dap_nil)) ⟨((r : Int) : Rat), ((Q'.natAbs : Int) : Rat), 16, 16, rfl, int_ne aq0, rS, qS, by decide, rfl⟩) ?_
    have sz1 : SzR 16 (Rat.divInt 1 (Q'.natAbs : Int)) := szR_divInt aq0 (by decide) aq
    refine ds_let (DP.is (dp_tup (dap_cons (dp_call (dap_cons (dp_tup (dap_cons (dp_mul (dp_var rfl) (dp_var rfl) (cmul sgb pb' (by decide))) (dap_cons dp_int dap_nil))) (dap_cons (dp_var rfl) dap_nil)) ⟨((sg * P' : Int) : Rat), _, 17, 16, rfl, pS, sz1, by decide, rfl⟩) (dap_cons (dp_ite (p := 0 < sg) (d := eR (((r : Int) : Rat) / ((Q'.natAbs : Int) : Rat))) (e := eR (-(((r : Int) : Rat) / ((Q'.natAbs : Int) : Rat)))) (dtp_test (dp_gt (dp_var rfl) dp_int)) (fun _ => dp_var rfl) (fun _ => dp_call (dap_cons (dp_var rfl) dap_nil) ⟨_, rfl, rfl⟩) |>.is (e := eR (if 0 < sg then (((r : Int) : Rat) / ((Q'.natAbs : Int) : Rat)) else -(((r : Int) : Rat) / ((Q'.natAbs : Int) : Rat)))) (by split <;> rfl)) dap_nil))) (e := eQ ((P' : Rat) / (Q' : Rat)) ((r : Rat) / (Q' : Rat))) (by rw [me1, me2])) ?_
    refine ds_when (b := false) (DTP.is (dtp_test (dp_neD (dp_var rfl) (dp_var rfl) sh_eQ sh_eQ)) (by rw [eqv_eQ]; simp)) (fun z => nomatch z) fun _ => ?_
    refine ds_when (dtp_test (dp_peek (i := 7) rfl (dp_inD (dp_var rfl) (dp_var rfl) sh_eQ (sh_eQs seen)) rfl)) (fun _ => ?_) fun _ => ?_
    · have hl : sgS f (A - 1) (B - 0) < 0 := by rw [c1]; decide
      have gp := gap hL.ok st hL.hd Qb (Nat.lt_trans pb' (by decide))
      rw [hrest] at gp
      have hN := stop_of gp
      refine ds_ret (de_opL (de_opL (de_call (DA.of (dap_cons (dp_var rfl) (dap_cons (dp_var rfl) (dap_cons (dp_tup (dap_cons (dp_tup (dap_cons dp_int (dap_cons dp_int dap_nil))) (dap_cons (dp_tup (dap_cons dp_int (dap_cons dp_int dap_nil))) dap_nil))) dap_nil))) ⟨f, A, B, 1, 0, 16, 16, 7, 40, rfl, hF, sd zra zb (by decide), sd s11 s01 (by decide), fk, zra, zb, s11, s01, by decide, by decide, hl, hN, fun j hj hs => ⟨.int 1, _, dp_int, r2_ixT (ds := [.int _, .int _]) rfl rfl, .int 1, .bool true, dp_int, ?_, ⟨es, rfl, hT es (by assumption)⟩⟩⟩))))
      have hden := stop_den p0 hs
      refine r2_I0 (fun _ => .bl _) ?_
      congr 1
      exact decide_eq_true (by omega)
    · refine ds_seq (ds_app rfl (dp_var rfl) ?_ ?_)
      · unfold eQs
        rw [List.length_map]
        exact Nat.lt_of_le_of_lt (show seen.length ≤ 30 by omega) (by decide)
      · refine ds_asg (DE.of (dp_var rfl) (dg_name ?_))
        refine ⟨P', Q', T', T1, L', L1, seen ++ [((P' : Rat) / (Q' : Rat), (r : Rat) / (Q' : Rat))], tt ++ [.int T2], ll ++ [.int L2], .va (.int (i : Int)), .va (.int w), .va (.int (-(if i % 2 = 0 then 1 else -1))), .va (eQ A B), .va (eQ ((P' : Rat) / (Q' : Rat)) ((r : Rat) / (Q' : Rat))), .va (eR (Rat.divInt 1 (Q'.natAbs : Int))), .va (.int sg), .va (eR (((r : Int) : Rat) / ((Q'.natAbs : Int) : Rat))), .va (eQ ((P' : Rat) / (Q' : Rat)) ((r : Rat) / (Q' : Rat))), ?_, (by rw [← hT', ← hL']; exact N.next), ?_, ?_, ?_⟩
        · unfold eQs goR
          rw [List.map_append]
          rfl
        · rw [List.length_append]; exact Nat.succ_le_succ hn1
        · rw [List.length_append]; exact Nat.succ_le_succ hn2
        · rw [List.length_append]; exact Nat.succ_le_succ hn3
  · rintro ρ2 ⟨P, Q, T1, T2, L1, L2, seen, tt, ll, s11, s12, s13, s14, s15, s16, s17, s18, s19, rfl, hL, hn1, hn2, hn3⟩
    rfl
  · intro ρ' h0
    exact ds_retp dp_bl ⟨es, h0, hT es (by assumption)⟩

end H50
namespace H50
open PySem PySem.Spec PyProof.Rows L2 DL
theorem floor1 (h : Rat) : floorS 1 h 0 = h.num.fdiv (h.den : Int) := by
  have e0 : ((0 : Rat)).den = 1 := rfl
  have e1 : ((0 : Rat)).num = 0 := rfl
  have hl : lcmN h.den 1 = h.den := by unfold lcmN; rw [Nat.gcd_one_right, Nat.mul_one, Nat.div_one]
  have hb : byI h 0 = 0 := by unfold byI; rw [e1, Int.zero_mul]
  have hr : rootS 1 0 = 0 := by
    unfold rootS
    rw [if_neg (by decide)]
    have : Float64.isqrt (sqN 1 0) = 0 := isqrt_uniq (by decide) (by decide)
    rw [this]; rfl
  unfold floorS
  rw [hb, hr]
  unfold topI
  rw [e0, hl, Nat.div_self h.den_pos, Int.add_zero]
  congr 1
  exact Int.mul_one _
structure En (q : Rat) (i : Nat) (h : Rat) (T1 T2 L1 L2 : Int) : Prop where
  eq : q * ((L1 : Rat) * h + (L2 : Rat)) = (T1 : Rat) * h + (T2 : Rat)
  det : T1 * L2 - T2 * L1 = 1 ∨ T1 * L2 - T2 * L1 = -1
  l1 : (i = 0 ∧ L1 = 0 ∧ L2 = 1) ∨ (0 < i ∧ 1 ≤ L1 ∧ 0 ≤ L2 ∧ (h.den : Int) < h.num ∧ 2 ^ (i - 1) * (h.num.natAbs * h.den) < 2 ^ 84)
  sz : h.num.natAbs < 2 ^ 41 ∧ h.den < 2 ^ 41
  tb : T1.natAbs < 2 ^ (43 * i + 1) ∧ T2.natAbs < 2 ^ (43 * i + 1) ∧ L1.natAbs < 2 ^ (43 * i + 1) ∧ L2.natAbs < 2 ^ (43 * i + 1)
theorem grow43 {w a b : Int} {i : Nat} (hw : w.natAbs < 2 ^ 41) (ha : a.natAbs < 2 ^ (43 * i + 1)) (hb : b.natAbs < 2 ^ (43 * i + 1)) : (w * a + b).natAbs < 2 ^ (43 * (i + 1) + 1) := by
  have h1 := mul_lt2 hw ha
  have h2 := add_lt2 (m := 41 + (43 * i + 1)) h1 (lt2_mono hb (by omega))
  exact lt2_mono h2 (by omega)
/-- whole and rest of a fraction -/
theorem fr_rest (h : Rat) : ∃ R : Nat, h.num = h.num.fdiv (h.den : Int) * (h.den : Int) + (R : Int) ∧ R < h.den ∧ Nat.gcd h.den R = 1 ∧ h - ((h.num.fdiv (h.den : Int) : Int) : Rat) = ((R : Nat) : Rat) / (h.den : Rat) := by
  have dp := den_pos' h
  obtain ⟨s1, s2⟩ := fdiv_sp (t := h.num) dp
  have hd := den_num h
  generalize h.num.fdiv (h.den : Int) = w at *
  have e2 : (w + 1) * (h.den : Int) = w * (h.den : Int) + (h.den : Int) := by grind
  obtain ⟨R, hR⟩ : ∃ R : Nat, h.num - w * (h.den : Int) = (R : Int) := ⟨(h.num - w * (h.den : Int)).toNat, by omega⟩
  refine ⟨R, by omega, by omega, ?_, ?_⟩
  · have g1 : ((Nat.gcd h.den R : Nat) : Int) ∣ (h.den : Int) := Int.natCast_dvd_natCast.mpr (Nat.gcd_dvd_left _ _)
    have g2 : ((Nat.gcd h.den R : Nat) : Int) ∣ (R : Int) := Int.natCast_dvd_natCast.mpr (Nat.gcd_dvd_right _ _)
    have g3 : ((Nat.gcd h.den R : Nat) : Int) ∣ h.num := by
      have : h.num = w * (h.den : Int) + (R : Int) := by omega
      rw [this]
      exact Int.dvd_add (Int.dvd_trans g1 (Int.dvd_mul_left _ _)) g2
    have g4 : Nat.gcd h.den R ∣ h.num.natAbs := Int.ofNat_dvd_left.mp g3
    have g5 := Nat.dvd_gcd g4 (Nat.gcd_dvd_left h.den R)
    have := h.reduced
    unfold Nat.Coprime at this
    rw [this] at g5
    exact Nat.dvd_one.mp g5
  · have d0 : (h.den : Rat) ≠ 0 := by
      intro z
      have : h.den = 0 := by exact_mod_cast z
      have := h.den_pos; omega
    have hi := Rat.mul_inv_cancel _ d0
    have hR2 : ((h.num - w * (h.den : Int) : Int) : Rat) = ((R : Int) : Rat) := by rw [hR]
    rw [Rat.intCast_sub, Rat.intCast_mul, Rat.intCast_natCast, Rat.intCast_natCast, ← hd] at hR2
    rw [Rat.div_def, ← hR2]
    grind
theorem divS_one {a : Rat} (h : a ≠ 0) : (divS 1 1 0 a 0).1 = 1 / a := by
  unfold divS
  have h1 := Rat.mul_inv_cancel a h
  have n0 : a * a - 0 * 0 * ((1 : Nat) : Rat) ≠ 0 := by
    intro z
    have : a * a = 0 := by grind
    rcases Rat.mul_eq_zero.mp this with y | y <;> exact h y
  have h2 := Rat.mul_inv_cancel _ n0
  simp only [Rat.div_def]
  grind
theorem inv_frac {R : Nat} {h : Rat} (hR : R ≠ 0) (hg : Nat.gcd h.den R = 1) : (1 / (((R : Nat) : Rat) / (h.den : Rat))).num = (h.den : Int) ∧ (1 / (((R : Nat) : Rat) / (h.den : Rat))).den = R := by
  have d0 : (h.den : Rat) ≠ 0 := by
    intro z
    have : h.den = 0 := by exact_mod_cast z
    have := h.den_pos; omega
  have r0 : (R : Rat) ≠ 0 := by
    intro z
    have : R = 0 := by exact_mod_cast z
    exact hR this
  have e : 1 / (((R : Nat) : Rat) / (h.den : Rat)) = Rat.divInt (h.den : Int) (R : Int) := by
    rw [Rat.divInt_eq_div, Rat.intCast_natCast, Rat.intCast_natCast]
    have h1 := Rat.mul_inv_cancel _ d0
    have h2 := Rat.mul_inv_cancel _ r0
    have h3 := Rat.mul_inv_cancel (((R : Nat) : Rat) / (h.den : Rat)) (by
      rw [Rat.div_def]
      intro z
      rcases Rat.mul_eq_zero.mp z with y | y
      · exact r0 y
      · rw [y] at h1; grind)
    rw [Rat.div_def, Rat.div_def] at *
    grind
  have q := eP_cop (t := (h.den : Int)) (l := (R : Int)) (by omega) (by rw [Int.natAbs_natCast, Int.natAbs_natCast]; exact hg)
  rw [← e] at q
  injection q with q
  injection q with q1 q2
  injection q2 with q2 q3
  injection q1 with q1
  injection q2 with q2
  exact ⟨q1.symm, by omega⟩
section
variable {q h : Rat} {i : Nat} {T1 T2 L1 L2 : Int}
theorem en_w (E : En q i h T1 T2 L1 L2) : (h.num.fdiv (h.den : Int)).natAbs < 2 ^ 41 ∧ 1 ≤ h.num.fdiv (h.den : Int) * L1 + L2 ∧ 0 ≤ L1 := by
  constructor
  · rw [Int.fdiv_eq_ediv_of_nonneg _ (Int.natCast_nonneg _)]
    exact Nat.lt_of_le_of_lt (Int.natAbs_ediv_le_natAbs _ _) E.sz.1
  · rcases E.l1 with ⟨_, rfl, rfl⟩ | ⟨_, a1, a2, a3, _⟩
    · omega
    · obtain ⟨s1, s2⟩ := fdiv_sp (t := h.num) (den_pos' h)
      have dp := den_pos' h
      have w1 : 1 ≤ h.num.fdiv (h.den : Int) := by
        apply Classical.byContradiction
        intro z
        have : (h.num.fdiv (h.den : Int) + 1) * (h.den : Int) ≤ 1 * (h.den : Int) := Int.mul_le_mul_of_nonneg_right (by omega) (by omega)
        omega
      have := Int.mul_le_mul w1 a1 (by omega) (by omega)
      omega
theorem en_step {R : Nat} (E : En q i h T1 T2 L1 L2) (hR : R ≠ 0) (h1 : h.num = h.num.fdiv (h.den : Int) * (h.den : Int) + (R : Int)) (h2 : R < h.den) (hg : Nat.gcd h.den R = 1) (hr : h - ((h.num.fdiv (h.den : Int) : Int) : Rat) = ((R : Nat) : Rat) / (h.den : Rat)) :
    En q (i + 1) (1 / (((R : Nat) : Rat) / (h.den : Rat))) (h.num.fdiv (h.den : Int) * T1 + T2) T1 (h.num.fdiv (h.den : Int) * L1 + L2) L1 := by
  obtain ⟨w1, w2, w3⟩ := en_w E
  obtain ⟨n1, n2⟩ := inv_frac hR hg
  have r0 : ((R : Nat) : Rat) / (h.den : Rat) ≠ 0 := by
    intro z
    rw [z] at n1
    have : (1 / (0 : Rat)).num = 0 := by rw [Rat.div_def, Rat.inv_zero, Rat.mul_zero]; rfl
    rw [this] at n1
    have := h.den_pos; omega
  have hi : ((R : Nat) : Rat) / (h.den : Rat) * (1 / (((R : Nat) : Rat) / (h.den : Rat))) = 1 := by
    rw [Rat.div_def 1, Rat.one_mul]; exact Rat.mul_inv_cancel _ r0
  have eq := E.eq
  have det := E.det
  have l1 := E.l1
  obtain ⟨z1, z2⟩ := E.sz
  obtain ⟨t1, t2, t3, t4⟩ := E.tb
  have em : ∀ x : Nat, h.num = (x : Int) → x % h.den = R := fun x hx => by
    rw [hx] at h1
    have : (x : Int) % (h.den : Int) = (R : Int) := by
      rw [h1]
      rw [Int.add_comm, Int.add_mul_emod_self_right]
      exact Int.emod_eq_of_lt (by omega) (by omega)
    exact_mod_cast this
  generalize hw : h.num.fdiv (h.den : Int) = w at *
  generalize 1 / (((R : Nat) : Rat) / (h.den : Rat)) = y at *
  refine ⟨?_, ?_, .inr ⟨Nat.succ_pos i, w2, w3, by rw [n1, n2]; omega, ?_⟩, ?_, ⟨grow43 w1 t1 t2, lt2_mono t1 (by omega), grow43 w1 t3 t4, lt2_mono t3 (by omega)⟩⟩
  · rw [Rat.intCast_add, Rat.intCast_mul, Rat.intCast_add, Rat.intCast_mul]
    rw [← hr] at hi
    have : h * y = (w : Rat) * y + 1 := by grind
    have e2 : q * ((L1 : Rat) * (h * y) + (L2 : Rat) * y) = (T1 : Rat) * (h * y) + (T2 : Rat) * y := by grind
    rw [this] at e2
    grind
  · rcases det with z | z
    · right; grind
    · left; grind
  · rw [n1, n2, Int.natAbs_natCast]
    show 2 ^ i * (h.den * R) < 2 ^ 84
    rcases l1 with ⟨rfl, _, _⟩ | ⟨i0, _, _, a3, a4⟩
    · have : h.den * R < 2 ^ (41 + 41) := nat_two_mul z2 (by omega)
      rw [Nat.pow_zero, Nat.one_mul]
      exact Nat.lt_trans this (by decide)
    · have hx : h.num = (h.num.natAbs : Int) := by have := h.den_pos; omega
      have hm := em _ hx
      have st := euc_step (x := h.num.natAbs) (y := h.den) (by omega) h.den_pos
      rw [hm] at st
      obtain ⟨j, rfl⟩ : ∃ j, i = j + 1 := ⟨i - 1, by omega⟩
      rw [show j + 1 - 1 = j from rfl] at a4
      have := Nat.mul_le_mul_left (2 ^ j) st
      have e3 : 2 ^ (j + 1) * (h.den * R) = 2 ^ j * (2 * (h.den * R)) := by rw [Nat.pow_succ, Nat.mul_assoc]
      omega
  · rw [n1, n2, Int.natAbs_natCast]
    exact ⟨z2, by omega⟩
theorem en_last (E : En q i h T1 T2 L1 L2) (hr : h = ((h.num.fdiv (h.den : Int) : Int) : Rat)) : (.tuple [.int (h.num.fdiv (h.den : Int) * T1 + T2), .int (h.num.fdiv (h.den : Int) * L1 + L2)] : D) = eR q := by
  obtain ⟨w1, w2, w3⟩ := en_w E
  have eq := E.eq
  have det := E.det
  generalize h.num.fdiv (h.den : Int) = w at *
  subst hr
  have co : Nat.gcd (w * T1 + T2).natAbs (w * L1 + L2).natAbs = 1 := by
    have g1 : ((Nat.gcd (w * T1 + T2).natAbs (w * L1 + L2).natAbs : Nat) : Int) ∣ (w * T1 + T2) := Int.ofNat_dvd_left.mpr (Nat.gcd_dvd_left _ _)
    have g2 : ((Nat.gcd (w * T1 + T2).natAbs (w * L1 + L2).natAbs : Nat) : Int) ∣ (w * L1 + L2) := Int.ofNat_dvd_left.mpr (Nat.gcd_dvd_right _ _)
    have g3 : ((Nat.gcd (w * T1 + T2).natAbs (w * L1 + L2).natAbs : Nat) : Int) ∣ (T1 * L2 - T2 * L1) := by
      have : T1 * L2 - T2 * L1 = T1 * (w * L1 + L2) - L1 * (w * T1 + T2) := by grind
      rw [this]
      exact Int.dvd_sub (Int.dvd_trans g2 (Int.dvd_mul_left _ _)) (Int.dvd_trans g1 (Int.dvd_mul_left _ _))
    have g4 : Nat.gcd (w * T1 + T2).natAbs (w * L1 + L2).natAbs ∣ 1 := by
      rcases det with z | z
      · rw [z] at g3; exact Int.ofNat_dvd_left.mp g3
      · rw [z] at g3; exact Int.ofNat_dvd_left.mp g3
    exact Nat.dvd_one.mp g4
  rw [eP_cop (by omega) co]
  congr 1
  rw [Rat.divInt_eq_div]
  have l0 := int_ne (show w * L1 + L2 ≠ 0 by omega)
  have hi := Rat.mul_inv_cancel _ l0
  rw [Rat.div_def]
  rw [Rat.intCast_add, Rat.intCast_mul] at *
  rw [Rat.intCast_add, Rat.intCast_mul] at *
  grind
end

end H50
namespace H50
open PySem PySem.Spec PyProof.Rows L2 DL
theorem fd1 : Fd 1 := ⟨by decide, by decide, field_ok 1 (by simp)⟩
theorem len2' {xs : List D} {a b : D} (h : xs.length ≤ 90) : (xs ++ [a] ++ [b]).length < sizeLine := by
  rw [List.length_append, List.length_append]
  exact Nat.lt_of_le_of_lt (show xs.length + 1 + 1 ≤ 100 by omega) (by decide)
def c_law_ends : CallC := fun cs ds T => ∃ (m : Nat), ds = [] ∧ m < 800000 ∧ PotN m cs ∧ ∀ es, PotN (m + 2) es → T (.bool true) es
theorem len_law_ends {cs ds T} (h : c_law_ends cs ds T) : ds.length + 1 = 1 := by obtain ⟨_, rfl, _⟩ := h; rfl
def enR (p : Addr) (pot : List D) (t l : Int) (q h : Rat) (p5 p6 : Addr) (tops lows : List D) (s7 s8 s9 : Sl) : List Sl :=
  [.ce p pot, .va (.int t), .va (.int l), .va (eR q), .va (eR h), .ce p5 tops, .ce p6 lows, s7, s8, s9]
abbrev N_law_ends : List Str := ["pot", "top", "low", "one", "here", "tops", "lows", "lap", "whole", "rest"]
theorem sc_law_ends : FnScope N_law_ends ["pot"] (defScope s_law_ends) := ⟨rfl, rfl, rfl, by decide +kernel, rfl, by decide +kernel, by decide +kernel⟩
set_option maxHeartbeats 2000000 in
theorem ok_law_ends {Pg : Program} {w : World} {K : Fg} {mg : Str → Option Value} {base : Heap} (C : Cs K mg) (D0 : DfX K mg "_law_ends" s_law_ends ["pot"]) (h__law_take : OkF Pg w K mg base "_law_take" 1 ["pot", "upto"] (spC K c_law_take)) (h__law_reduced : OkF Pg w K mg base "_law_reduced" 1 ["top", "low"] (spP K c_law_reduced)) (h_surd_rounded : OkF Pg w K mg base "surd_rounded" 6 ["field", "one"] (spP K c_surd_rounded)) (h_surd_sum : OkF Pg w K mg base "surd_sum" 7 ["field", "one", "other"] (spP K c_surd_sum)) (h_surd_parted : OkF Pg w K mg base "surd_parted" 7 ["field", "one", "other"] (spP K c_surd_parted)) : OkF Pg w K mg base "_law_ends" 8 ["pot"] (spC K c_law_ends) := by
  refine okC D0 sc_law_ends (fun cs ds T h => len_law_ends h) fun f cdv A outer s H E hr => ⟨_, (pss_cons (ps_par (i := 1) (j := 2) rfl sc_law_ends.nd rfl rfl (by decide) rfl rfl (pa_cons (pe_op op_sub (pe_callTy call_int1 (by rfl) C.f_int (by decide +kernel) (pa_cons (pe_cl h__law_take (hr.mono (by decide)) (pa_cons (pv 0) (pa_cons (pe_op op_powX pe_int pe_int) pa_nil))) pa_nil)) (pe_op op_powX pe_int pe_int)) (pa_cons (pe_op op_add pe_int (pe_callTy call_int1 (by rfl) C.f_int (by decide +kernel) (pa_cons (pe_cl h__law_take (hr.mono (by decide)) (pa_cons (pv 0) (pa_cons (pe_op op_powX pe_int pe_int) pa_nil))) pa_nil))) pa_nil)) (by rfl))
      (pss_cons (ps_set (i := 3) sc_law_ends.nd rfl (.inl rfl) (pe_cl h__law_reduced (hr.mono (by decide)) (pa_cons (pv 1) (pa_cons (pv 2) pa_nil))))
      (pss_cons (ps_par3 (i := 4) (j := 5) (l := 6) rfl sc_law_ends.nd rfl rfl rfl (by decide) (by decide) (by decide) rfl rfl rfl (pa_cons (pv 3) (pa_cons (pe_lst (pa_cons pe_int (pa_cons pe_int pa_nil))) (pa_cons (pe_lst (pa_cons pe_int (pa_cons pe_int pa_nil))) pa_nil))) (by rfl))
      (pss_cons (ps_for PassesOwn.never rfl (pi_range1 (by rfl) C.f_range (pa_cons pe_int pa_nil)) (pg_name (i := 7) sc_law_ends.nd rfl (.inl rfl))
        (pss_cons (ps_set (i := 8) sc_law_ends.nd rfl (.inl rfl) (pe_cl h_surd_rounded (hr.mono (by decide)) (pa_cons pe_int (pa_cons (pe_tup (pa_cons (pv 4) (pa_cons (pe_tup (pa_cons pe_int (pa_cons pe_int pa_nil))) pa_nil))) pa_nil))))
        (pss_cons (ps_if (pt_cmpR op_ne (pv 8) (pe_op op_fdivX (pe_ix ix_tup (pv 4) pe_int (fun _ _ => rfl)) (pe_ix ix_tup (pv 4) pe_int (fun _ _ => rfl))) (nomark _))
          (pss_one (ps_ret pe_bl))
          pss_nil)
        (pss_cons (ps_expr (pe_bm PySem.F.plainAttrs_list PySem.F.slot_list_append PySem.F.type_list_append mt_append (pv 5) (pa_cons (pe_op op_add (pe_op op_mulW (pv 8) (pe_ix ix_list (pv 5) (pe_un un_neg pe_int) (fun _ _ => rfl))) (pe_ix ix_list (pv 5) (pe_un un_neg pe_int) (fun _ _ => rfl))) pa_nil)))
        (pss_cons (ps_expr (pe_bm PySem.F.plainAttrs_list PySem.F.slot_list_append PySem.F.type_list_append mt_append (pv 6) (pa_cons (pe_op op_add (pe_op op_mulW (pv 8) (pe_ix ix_list (pv 6) (pe_un un_neg pe_int) (fun _ _ => rfl))) (pe_ix ix_list (pv 6) (pe_un un_neg pe_int) (fun _ _ => rfl))) pa_nil)))
        (pss_cons (ps_set (i := 9) sc_law_ends.nd rfl (.inl rfl) (pe_cl h_surd_sum (hr.mono (by decide)) (pa_cons pe_int (pa_cons (pe_tup (pa_cons (pv 4) (pa_cons (pe_tup (pa_cons pe_int (pa_cons pe_int pa_nil))) pa_nil))) (pa_cons (pe_tup (pa_cons (pe_tup (pa_cons (pe_op op_sub pe_int (pv 8)) (pa_cons pe_int pa_nil))) (pa_cons (pe_tup (pa_cons pe_int (pa_cons pe_int pa_nil))) pa_nil))) pa_nil)))))
        (pss_cons (ps_if (pt_cmpR (op_eqD hr.units) (pv 9) (pe_tup (pa_cons (pe_tup (pa_cons pe_int (pa_cons pe_int pa_nil))) (pa_cons (pe_tup (pa_cons pe_int (pa_cons pe_int pa_nil))) pa_nil))) (nomark _))
          (pss_one (ps_ret (pe_cmpR (op_eqD hr.units) (pe_tup (pa_cons (pe_ix ix_list (pv 5) (pe_un un_neg pe_int) (fun _ _ => rfl)) (pa_cons (pe_ix ix_list (pv 6) (pe_un un_neg pe_int) (fun _ _ => rfl)) pa_nil))) (pv 3) (nomark _))))
          pss_nil)
        (pss_one (ps_set (i := 4) sc_law_ends.nd rfl (.inl rfl) (pe_ix ix_tup (pe_cl h_surd_parted (hr.mono (by decide)) (pa_cons pe_int (pa_cons (pe_tup (pa_cons (pe_tup (pa_cons pe_int (pa_cons pe_int pa_nil))) (pa_cons (pe_tup (pa_cons pe_int (pa_cons pe_int pa_nil))) pa_nil))) (pa_cons (pv 9) pa_nil)))) pe_int (fun _ _ => rfl)))))))))))
      (pss_one (ps_ret pe_bl)))))), fun p cs ds T h => ?_⟩
  obtain ⟨m, rfl, hm, hp, hT⟩ := h
  have cp : CPowX 10 12 := cpow (b := 4) (by decide) (by decide) (by decide)
  refine ds_seq (ds_par (da_cons (de_opL (de_intI (de_take (Pg := Pg) rfl hp (dp_pow dp_int dp_int cp) (by decide) (by decide) (by omega) fun k1 e1 k10 k11 h1 => ⟨k1, rfl, _, _, dp_pow dp_int dp_int (cpow (b := 4) (by decide) (by decide) (by decide)), r2_subE, ?_⟩)))))
  refine da_cons (de_opR dp_int (de_intI (de_take (Pg := Pg) rfl h1 (dp_pow dp_int dp_int cp) (by decide) (by decide) (by omega) fun k2 es k20 k21 hes => ⟨k2, rfl, _, r2_addE, da_nil ⟨_, _, rfl, ?_⟩⟩)))
  have k1b : k1 < 1000000000000 := k11
  have k2b : k2 < 1000000000000 := k21
  have tb : (k1 - 10 ^ (11 : Int).toNat).natAbs < 2 ^ 40 := by
    have : (10 : Int) ^ (11 : Int).toNat = 100000000000 := by decide
    omega
  have lb : (1 + k2).natAbs < 2 ^ 40 := by omega
  have l0 : 1 + k2 ≠ 0 := by omega
  generalize k1 - 10 ^ (11 : Int).toNat = t at *
  generalize 1 + k2 = l at *
  refine ds_let (dp_call (dap_cons (dp_var rfl) (dap_cons (dp_var rfl) dap_nil)) ⟨t, l, 40, rfl, l0, tb, lb, by decide, rfl⟩) ?_
  have qz : SzR 40 (Rat.divInt t l) := szR_divInt l0 tb lb
  generalize Rat.divInt t l = q at *
  refine ds_par3X (its := [.va (eR q), .ne [.int 0, .int 1], .ne [.int 1, .int 0]]) (dax_cons (dp_var rfl) (dax_cons (dx_lst (dap_cons dp_int (dap_cons dp_int dap_nil))) (dax_cons (dx_lst (dap_cons dp_int (dap_cons dp_int dap_nil))) dax_nil))) rfl (by intro i hi; show i < 10; simp at hi; omega) fun sx hsx => ?_
  obtain ⟨p5, p6, rfl⟩ : ∃ p5 p6, sx = [.va (eR q), .ce p5 [.int 0, .int 1], .ce p6 [.int 1, .int 0]] := by
    cases hsx with
    | cons h1 t => cases t with
      | cons h2 t => cases t with
        | cons h3 t =>
          cases t
          obtain ⟨p5, rfl⟩ := h2
          obtain ⟨p6, rfl⟩ := h3
          cases h1
          exact ⟨p5, p6, rfl⟩
  have E0 : En q 0 q 1 0 0 1 := ⟨by grind, by decide, .inl ⟨rfl, rfl, rfl⟩, ⟨Nat.lt_trans qz.1 (by decide), Nat.lt_trans qz.2 (by decide)⟩, by decide⟩
  refine ds_forq (fun ρ' => False) (ds_for (fun _ i ρ' => ∃ (h : Rat) (T1 T2 L1 L2 : Int) (tt ll : List D) (s7 s8 s9 : Sl), ρ' = enR p es t l q h p5 p6 (tt ++ [.int T2] ++ [.int T1]) (ll ++ [.int L2] ++ [.int L1]) s7 s8 s9 ∧ En q i h T1 T2 L1 L2 ∧ tt.length ≤ i ∧ ll.length ≤ i) (di_rng1 (DA.of (dap_cons dp_int dap_nil) ⟨_, rfl, by decide, by decide, ⟨q, 1, 0, 0, 1, [], [], .no, .no, .no, rfl, E0, Nat.le_refl _, Nat.le_refl _⟩, ?_, ?_⟩))) ?_
  · rintro i dl ρ2 hdl ⟨h, T1, T2, L1, L2, tt, ll, s7, s8, s9, rfl, hE, hn1, hn2⟩
    have hi : i < 90 := by
      have := (List.getElem?_eq_some_iff.mp hdl).1
      rw [List.length_map, List.length_range] at this
      exact this
    obtain ⟨w1, w2, w3⟩ := en_w hE
    obtain ⟨R, hR1, hR2, hg, hr⟩ := fr_rest h
    have hz : SzR 41 h := hE.sz
    have z0 : SzR 41 (0 : Rat) := szR_mono szR0 (by decide)
    have o0 : SzR 41 (1 : Rat) := ⟨by decide, by decide⟩
    have sd1 : ∀ {a : Rat} {m : Nat}, SzR m a → m ≤ 990 → Sd 1 a 0 := fun ha h => ⟨sz_told ha h, sz_told z0 (by decide), by decide, .inr rfl⟩
    refine dg_name ?_
    refine ds_let (DP.is (dp_call (dap_cons dp_int (dap_cons (dp_tup (dap_cons (dp_var rfl) (dap_cons (dp_tup (dap_cons dp_int (dap_cons dp_int dap_nil))) dap_nil))) dap_nil)) ⟨1, h, 0, 41, 1, rfl, fd1, sd1 hz (by decide), by decide, hz, z0, by decide, rfl⟩) (by rw [floor1])) ?_
    have E1 := en_step hE (R := R)
    have EL := en_last hE
    obtain ⟨t1, t2, t3, t4⟩ := hE.tb
    have tw : ∀ {a : Int}, a.natAbs < 2 ^ (43 * i + 1) → a.natAbs < 2 ^ 4000 := fun h => lt2_mono h (by omega)
    have wb : (h.num.fdiv (h.den : Int)).natAbs < 2 ^ 4000 := lt2_mono w1 (by decide)
    have hd : CDivX h.num (h.den : Int) := cdiv (by have := h.den_pos; omega) (nat_lt2 hz.2) (by decide)
    refine ds_when (b := false) (DTP.is (dtp_test (dp_neI (dp_var rfl) (dp_div (dp_ixT (ds := [.int h.num, .int (h.den : Int)]) (dp_var rfl) dp_int) (dp_ixT (ds := [.int h.num, .int (h.den : Int)]) (dp_var rfl) dp_int) hd))) (by simp)) (fun z => nomatch z) fun _ => ?_
    generalize hw : h.num.fdiv (h.den : Int) = w at *
    refine ds_seq (ds_app rfl (dp_add (dp_mul (dp_var rfl) (dp_cixN rfl atI_last) (cmul wb (tw t1) (by decide))) (dp_cixN rfl atI_last2)) (len2' (by omega)) ?_)
    refine ds_seq (ds_app rfl (dp_add (dp_mul (dp_var rfl) (dp_cixN rfl atI_last) (cmul wb (tw t3) (by decide))) (dp_cixN rfl atI_last2)) (len2' (by omega)) ?_)
    have s0w : SzR 42 ((0 - w : Int) : Rat) := ⟨by
      show (0 - w).natAbs < _
      have : (2 : Nat) ^ 41 < 2 ^ 42 := by decide
      omega, by show 1 < 2 ^ 42; decide⟩
    have ra : h + ((0 - w : Int) : Rat) = h - (w : Rat) := by
      rw [Int.zero_sub, Rat.intCast_neg]; grind
    have r0 : (0 : Rat) + 0 = 0 := by grind
    refine ds_let (DP.is (dp_call (dap_cons dp_int (dap_cons (dp_tup (dap_cons (dp_var rfl) (dap_cons (dp_tup (dap_cons dp_int (dap_cons dp_int dap_nil))) dap_nil))) (dap_cons (dp_tup (dap_cons (dp_tup (dap_cons (dp_sub dp_int (dp_var rfl)) (dap_cons dp_int dap_nil))) (dap_cons (dp_tup (dap_cons dp_int (dap_cons dp_int dap_nil))) dap_nil))) dap_nil))) ⟨1, h, 0, ((0 - w : Int) : Rat), 0, rfl, fd1, sd1 hz (by decide), sd1 s0w (by decide), rfl⟩) (e := eQ (h - (w : Rat)) 0) (by rw [ra, r0])) ?_
    refine ds_whenq (p := R = 0) (DTP.is (dtp_test (dp_eqD (d := eQ (h - (w : Rat)) 0) (e := eQ 0 0) (dp_var rfl) (dp_tup (dap_cons (dp_tup (dap_cons dp_int (dap_cons dp_int dap_nil))) (dap_cons (dp_tup (dap_cons dp_int (dap_cons dp_int dap_nil))) dap_nil))) sh_eQ sh_eQ)) ?_) (fun z => ?_) fun z => ?_
    · rw [eqv_eQ, decide_eq_true (rfl : (0 : Rat) = 0), Bool.and_true]
      refine decide_eq_decide.mpr ?_
      rw [hr]
      have d0 : (h.den : Rat) ≠ 0 := by
        intro z
        have : h.den = 0 := by exact_mod_cast z
        have := h.den_pos; omega
      have hi := Rat.mul_inv_cancel _ d0
      constructor
      · intro z
        rw [Rat.div_def] at z
        rcases Rat.mul_eq_zero.mp z with y | y
        · exact_mod_cast y
        · rw [y] at hi; grind
      · intro z
        subst z
        rw [Rat.div_def]
        have : (((0 : Nat)) : Rat) = 0 := rfl
        rw [this, Rat.zero_mul]
    · subst z
      have hh : h = (w : Rat) := by
        have : (((0 : Nat)) : Rat) = 0 := rfl
        rw [this, Rat.div_def, Rat.zero_mul] at hr
        grind
      refine ds_retp (dp_eqD (DP.is (dp_tup (dap_cons (dp_cixN rfl atI_last) (dap_cons (dp_cixN rfl atI_last) dap_nil))) (EL hh)) (dp_var rfl) sh_eR sh_eR) ⟨es, rfl, ?_⟩
      rw [eqv_eR, decide_eq_true rfl]
      exact hT es (by assumption)
    · have E2 := E1 z hR1 hR2 hg hr
      have rne : h - (w : Rat) ≠ 0 := by
        rw [hr]
        intro y
        have d0 : (h.den : Rat) ≠ 0 := by
          intro z
          have : h.den = 0 := by exact_mod_cast z
          have := h.den_pos; omega
        have hi := Rat.mul_inv_cancel _ d0
        rw [Rat.div_def] at y
        rcases Rat.mul_eq_zero.mp y with y | y
        · exact z (by exact_mod_cast y)
        · rw [y] at hi; grind
      have nz : (h - (w : Rat)) * (h - (w : Rat)) - 0 * 0 * ((1 : Nat) : Rat) ≠ 0 := by
        intro y
        have : (h - (w : Rat)) * (h - (w : Rat)) = 0 := by grind
        rcases Rat.mul_eq_zero.mp this with y | y <;> exact rne y
      have rz : SzR 90 (h - (w : Rat)) := by
        have : SzR 42 ((w : Int) : Rat) := ⟨by
          show w.natAbs < _
          have : (2 : Nat) ^ 41 < 2 ^ 42 := by decide
          omega, by show 1 < 2 ^ 42; decide⟩
        exact szR_mono (szR_sub hz this) (by decide)
      have z90 : SzR 90 (0 : Rat) := szR_mono szR0 (by decide)
      refine ds_asg (DE.of (DP.is (dp_ixT (ds := [eR (divS 1 1 0 (h - (w : Rat)) 0).1, eR (divS 1 1 0 (h - (w : Rat)) 0).2]) (dp_call (dap_cons dp_int (dap_cons (dp_tup (dap_cons (dp_tup (dap_cons dp_int (dap_cons dp_int dap_nil))) (dap_cons (dp_tup (dap_cons dp_int (dap_cons dp_int dap_nil))) dap_nil))) (dap_cons (dp_var rfl) dap_nil))) ⟨1, 1, 0, h - (w : Rat), 0, 41, 90, 1, rfl, fd1, sd1 o0 (by decide), sd1 rz (by decide), by decide, o0, z0, rz, z90, by decide, by decide, nz, rfl⟩) dp_int) (e := eR (1 / (((R : Nat) : Rat) / (h.den : Rat)))) (by rw [divS_one rne, hr])) (dg_name ?_))
      refine ⟨_, w * T1 + T2, T1, w * L1 + L2, L1, tt ++ [.int T2], ll ++ [.int L2], .va dl, .va (.int w), .va (eQ (h - (w : Rat)) 0), rfl, E2, ?_, ?_⟩
      · rw [List.length_append]; exact Nat.succ_le_succ hn1
      · rw [List.length_append]; exact Nat.succ_le_succ hn2
  · rintro ρ2 ⟨h, T1, T2, L1, L2, tt, ll, s7, s8, s9, rfl, hE, hn1, hn2⟩
    rw [List.length_map, List.length_range] at hE
    rcases hE.l1 with ⟨z, _⟩ | ⟨_, _, _, a3, a4⟩
    · exact absurd z (by decide)
    · have hp : 0 < h.num.natAbs * h.den := Nat.mul_pos (by have := h.den_pos; omega) h.den_pos
      have := Nat.le_mul_of_pos_right (2 ^ ((90 : Int).toNat - 1)) hp
      have h5 : (2 : Nat) ^ 84 < 2 ^ ((90 : Int).toNat - 1) := by decide
      omega
  · intro ρ' z
    exact z.elim

end H50
namespace H50
open PySem PySem.Spec PyProof.Rows L2 DL
theorem fields12 : ∀ f ∈ [2, 3, 5, 6, 7, 10, 11, 13, 14, 19, 31, 61], 1 < f ∧ f ≤ 64 ∧ f < 10 ^ 300 ∧ ∀ x, x < 65 → x * x ≠ f := by decide +kernel
def c_law_right : CallC := fun cs ds T => ∃ (m : Nat), ds = [] ∧ m < 700000 ∧ PotN m cs ∧ ∀ es, PotN (m + 7) es → T (.bool true) es
theorem len_law_right {cs ds T} (h : c_law_right cs ds T) : ds.length + 1 = 1 := by obtain ⟨_, rfl, _⟩ := h; rfl
abbrev N_law_right : List Str := ["pot", "field"]
theorem sc_law_right : FnScope N_law_right ["pot"] (defScope s_law_right) := ⟨rfl, rfl, rfl, by decide +kernel, rfl, by decide +kernel, by decide +kernel⟩
set_option maxHeartbeats 2000000 in
theorem ok_law_right {Pg : Program} {w : World} {K : Fg} {mg : Str → Option Value} {base : Heap} (C : Cs K mg) (D0 : DfX K mg "_law_right" s_law_right ["pot"]) (h__law_of : OkF Pg w K mg base "_law_of" 2 ["pot", "some"] (spC K c_law_of)) (h__law_ends : OkF Pg w K mg base "_law_ends" 8 ["pot"] (spC K c_law_ends)) (h__law_goes_on : OkF Pg w K mg base "_law_goes_on" 9 ["pot", "field"] (spC K c_law_goes_on)) : OkF Pg w K mg base "_law_right" 10 ["pot"] (spC K c_law_right) := by
  refine okC D0 sc_law_right (fun cs ds T h => len_law_right h) fun f cdv A outer s H E hr => ⟨_, (pss_cons (ps_set (i := 1) sc_law_right.nd rfl (.inl rfl) (pe_cl h__law_of (hr.mono (by decide)) (pa_cons (pv 0) (pa_cons (pe_lst (pa_cons pe_int (pa_cons pe_int (pa_cons pe_int (pa_cons pe_int (pa_cons pe_int (pa_cons pe_int (pa_cons pe_int (pa_cons pe_int (pa_cons pe_int (pa_cons pe_int (pa_cons pe_int (pa_cons pe_int pa_nil))))))))))))) pa_nil))))
      (pss_one (ps_ret (pe_and (pe_cl h__law_goes_on (hr.mono (by decide)) (pa_cons (pv 0) (pa_cons (pv 1) pa_nil))) (pe_one (pe_cl h__law_ends (hr.mono (by decide)) (pa_cons (pv 0) pa_nil))))))), fun p cs ds T h => ?_⟩
  obtain ⟨m, rfl, hm, hp, hT⟩ := h
  refine ds_letE (de_callC rfl (DA.of (dap_cons (dp_lst (ds := [2, 3, 5, 6, 7, 10, 11, 13, 14, 19, 31, 61].map fun f : Nat => PyData.int (f : Int)) (dap_cons dp_int (dap_cons dp_int (dap_cons dp_int (dap_cons dp_int (dap_cons dp_int (dap_cons dp_int (dap_cons dp_int (dap_cons dp_int (dap_cons dp_int (dap_cons dp_int (dap_cons dp_int (dap_cons dp_int dap_nil))))))))))))) dap_nil) ⟨cs, rfl, m, _, rfl, by decide, by decide, by omega, hp, fun x e1 hx h1 => ?_⟩))
  obtain ⟨f, hf, rfl⟩ := List.mem_map.mp hx
  obtain ⟨f1, f2, f3, f4⟩ := fields12 f hf
  have hN : NSq (f : Rat) := nsq_of (by omega) fun x hx => f4 x (by omega)
  have hF : Fd f := ⟨by omega, f3, field_ok f (by
    have : ∀ f ∈ [2, 3, 5, 6, 7, 10, 11, 13, 14, 19, 31, 61], f ∈ [1, 2, 3, 5, 6, 7, 10, 11, 13, 14, 15, 17, 19, 21, 22, 23, 26, 31, 61, 101] := by decide
    exact this f hf)⟩
  refine ds_ret (de_andV (de_callC rfl (DA.of (dap_cons (dp_var rfl) dap_nil) ⟨e1, rfl, m + 1, f, hN, rfl, by omega, f1, f2, hF, h1, fun e2 h2 => ⟨true, rfl, ?_⟩⟩)))
  rw [if_pos rfl]
  exact de_callC rfl (DA.of dap_nil ⟨e2, rfl, m + 1 + 4, rfl, by omega, h2, fun e3 h3 => ⟨e3, rfl, hT e3 h3⟩⟩)
def c_law : Call := fun ds T => ∃ ns : List Int, ds = [.list (ns.map .int)] ∧ T (.bool true)
theorem len_law {ds T} (h : c_law ds T) : ds.length = 1 := by obtain ⟨_, rfl, _⟩ := h; rfl
abbrev N_law : List Str := ["script", "place", "pot", "lap"]
theorem sc_law : FnScope N_law ["script"] (defScope s_law) := ⟨rfl, rfl, rfl, by decide +kernel, rfl, by decide +kernel, by decide +kernel⟩
set_option maxHeartbeats 2000000 in
theorem ok_law {Pg : Program} {w : World} {K : Fg} {mg : Str → Option Value} {base : Heap} (C : Cs K mg) {fA : Addr} {fD : FuncData} (D0 : FnX K "law" s_law fA fD) (h__law_cells : OkF Pg w K mg base "_law_cells" 1 ["script", "most"] (spP K c_law_cells)) (h__law_pot : OkF Pg w K mg base "_law_pot" 1 ["script", "place"] (spN K c_law_pot)) (h__law_right : OkF Pg w K mg base "_law_right" 10 ["pot"] (spC K c_law_right)) : FnOk Pg w K mg base CX0 11 fA fD ["script"] (spP K c_law) := by
  refine okL D0 sc_law (fun ds T h => len_law h) fun f cdv A outer s H E hr => ⟨_, (pss_cons (ps_for PassesOwn.never rfl (pi_list (pe_cl h__law_cells (hr.mono (by decide)) (pa_cons (pv 0) (pa_cons pe_int pa_nil)))) (pg_name (i := 1) sc_law.nd rfl (.inl rfl))
        (pss_cons (ps_set (i := 2) sc_law.nd rfl (.inr rfl) (pe_cl h__law_pot (hr.mono (by decide)) (pa_cons (pv 0) (pa_cons (pv 1) pa_nil))))
        (pss_one (ps_if (pt_not (pt_val (pe_callB (cr_all rfl) (by rfl) C.f_all (by decide +kernel) (pa_cons (pe_lc (own := [("lap", 3)]) (g := gName 3) rfl sc_law.nd (pi_range1 (by rfl) C.f_range (pa_cons pe_int pa_nil)) (blkOk_by (N := N_law) (sc := defScope s_law) (by decide +kernel)) (fun _ _ _ _ _ => (pg_name (i := 3) sc_law.nd rfl (.inl rfl))) (fun _ _ _ _ _ => pts_nil) (fun _ _ _ _ _ => (pe_cl h__law_right (hr.mono (by decide)) (pa_cons (pv 2) pa_nil)))) pa_nil))))
          (pss_one (ps_ret pe_bl))
          pss_nil))))
      (pss_one (ps_ret pe_bl))), fun ds T h => ?_⟩
  obtain ⟨ns, rfl, hT⟩ := h
  refine ds_forq (fun ρ' => True) (ds_for (fun ds i ρ' => (∃ n : Nat, n ≤ 100 ∧ ds = (List.range n).map fun i : Nat => PyData.int (i : Int)) ∧ ∃ s1 s2 s3 : Sl, ρ' = [.va (.list (ns.map .int)), s1, s2, s3]) (di_list (de_call (DA.of (dap_cons (dp_var rfl) (dap_cons dp_int dap_nil)) ⟨_, 3, rfl, by decide, fun n hn => ⟨_, rfl, ⟨⟨n, hn, rfl⟩, .no, .no, .no, rfl⟩, ?_, fun _ _ => trivial⟩⟩)))) fun ρ' _ => ds_retp dp_bl hT
  rintro i d ρ2 hd ⟨_, s1, s2, s3, rfl⟩
  have hi : i < n := by
    have := (List.getElem?_eq_some_iff.mp hd).1
    rw [List.length_map, List.length_range] at this
    exact this
  have hd' : d = .int (i : Int) := by
    rw [List.getElem?_map, List.getElem?_range hi] at hd
    exact (Option.some.inj hd).symm
  subst hd'
  refine dg_name ?_
  refine ds_cell (by show 2 < 4; decide) (dn_call (DA.of (dap_cons (dp_var rfl) (dap_cons (dp_var rfl) dap_nil)) ⟨ns, i, rfl, by omega, fun cs hcs => ⟨rfl, fun p nc => ?_⟩⟩))
  refine ds_if (dt_not (dt_B (de_cb (da_cons (de_new (dn_lc (fun ds j acc ρ' => ds.length = 2 ∧ ∃ cs, acc = (List.replicate j true).map PyData.bool ∧ PotN (7 * j) cs ∧ ∃ s4, ρ' = [.va (.list (ns.map .int)), .va (.int (i : Int)), .ce p cs, s4]) gw_name (di_rng1 (DA.of (dap_cons dp_int dap_nil) ⟨_, rfl, by decide, by decide, by decide, ?_, ?_, ?_⟩))))))))
  · exact ⟨rfl, cs, rfl, hcs, _, rfl⟩
  · rintro j d acc ρ2 hd ⟨_, cs, rfl, hcs, s4, rfl⟩
    have hj : j < 2 := by
      have := (List.getElem?_eq_some_iff.mp hd).1
      rw [List.length_map, List.length_range] at this
      exact this
    refine dg_name (dt_yes ?_)
    rw [if_pos rfl]
    refine de_callC rfl (DA.of dap_nil ⟨cs, rfl, 7 * j, rfl, by omega, hcs, fun es hes => ⟨rfl, es, ?_, hes, .no, rfl⟩⟩)
    rw [List.replicate_succ', List.map_append]; rfl
  · rintro acc ρ2 ⟨hl, cs, rfl, hcs, s4, rfl⟩
    refine da_nil (rc_all ⟨_, rfl, ?_⟩)
    rw [hl]
    exact ds_next ⟨⟨n, hn, rfl⟩, _, _, _, rfl⟩

end H50
namespace H50
open PySem PySem.Spec PyProof.Rows L2 DL
def names0 : List PySem.Str := ["LoopError", "BadNumber", "BEYOND", "NOTHING", "is_integer", "is_between", "common", "reduced", "is_fraction", "is_told_fraction", "added", "difference", "product_of", "quotient", "MOST_PRIME", "floor_root", "is_square", "core_told", "is_field", "check_field", "is_surd", "check_surd", "surd_of", "is_nothing", "surd_plus", "surd_less", "surd_times", "norm_of", "surd_inverse", "surd_by"]
def names1 : List PySem.Str := ["sign_of", "surd_sign", "surd_is_less", "surd_floor", "fraction_between", "check_two_surds", "surd_sum", "surd_parted", "surd_compared", "surd_rounded", "surd_between", "_law_pot", "_law_take", "_law_of", "_law_cells", "_law_reduced", "_law_sum", "_law_times", "_law_minus", "_law_parted", "_law_floor_root", "_law_floor", "_law_start", "_law_is_near", "_law_goes_on", "_law_ends", "_law_right"]
def names : List PySem.Str := names0 ++ names1
abbrev R : PySem.W.OpenRow := PySem.W.OpenLaw.row PySem.Challenge.rw_whennumbersstop_k50_whole_surds_as_fract
abbrev hk : PySem.W.Hook := hookX 4 fa fn
def ob (s : PySem.W.SharedT) : He.AlD := obsXG 4 fa fn (HandSHeadRun.getT s)
theorem ob_eq (s : PySem.W.SharedT) : ob s = hk.obs s.abs := obsXG_eq (HandSHeadRun.getT_eq s)
abbrev qv : PySem.Program := PySem.W.view R.prog [0, 63]
theorem run (w : World) : HandSHeadRun.RunEqI R qv hk ob 4000 names w := by
  unfold HandSHeadRun.RunEqI
  kernel_rfl
end H50

namespace H50
open PySem PySem.Spec PyProof.Rows L2 DL
theorem facts {P : Program} {w : World} {K : Fg} {h : Heap} {mg : Str → Option Value} {f : Addr} (X : K.In h) (G : h.Ns mainGlobals mg) (hfa : mg ("law" : Str) = some (.ref f)) (c : SaysX fa fn K) :
    ∃ fd : FuncData, (∀ (s : Shared) (v : Value), BindsTo s fd ⟨[v], []⟩ [("script", v)]) ∧ ∀ base : Heap, K.In base → base.Ns mainGlobals mg → FnOk P w K mg base CX0 11 f fd ["script"] (spP K c_law) := by
  have C := cs_mk X G c
  obtain ⟨D_is_integer, D_is_between, D_common, D_reduced, D_is_fraction, D_is_told_fraction, D_added, D_difference, D_product_of, D_quotient, D_floor_root, D_is_square, D_core_told, D_is_field, D_check_field, D_is_surd, D_check_surd, D_surd_of, D_is_nothing, D_surd_plus, D_surd_less, D_surd_times, D_norm_of, D_surd_inverse, D_surd_by, D_sign_of, D_surd_sign, D_surd_is_less, D_surd_floor, D_fraction_between, D_check_two_surds, D_surd_sum, D_surd_parted, D_surd_compared, D_surd_rounded, D_surd_between, D__law_pot, D__law_take, D__law_of, D__law_cells, D__law_reduced, D__law_sum, D__law_times, D__law_minus, D__law_parted, D__law_floor_root, D__law_floor, D__law_start, D__law_is_near, D__law_goes_on, D__law_ends, D__law_right, D_law⟩ := df_mk X G c
  obtain ⟨fd, F⟩ := c.def_ 52 (d := defX "law" s_law) rfl
  have e := hfa.symm.trans (He.glo_ok X G (c.fact 52 (f := .def_ "law") rfl))
  cases e
  have b := FunD.bindsA (ps := ["script"]) F fun _ _ _ _ _ _ us hl => match us, hl with | [_], _ => rfl
  refine ⟨fd, fun s v => b s [v] rfl, fun base _ _ => ?_⟩
  have k__law_cells := ok_law_cells (Pg := P) (w := w) (base := base) C D__law_cells 
  have k__law_pot := ok_law_pot (Pg := P) (w := w) (base := base) C D__law_pot 
  have k__law_take := ok_law_take (Pg := P) (w := w) (base := base) C D__law_take 
  have k__law_of := ok_law_of (Pg := P) (w := w) (base := base) C D__law_of k__law_take
  have k__law_reduced := ok_law_reduced (Pg := P) (w := w) (base := base) C D__law_reduced 
  have k_is_integer := ok_is_integer (Pg := P) (w := w) (base := base) C D_is_integer 
  have k_is_between := ok_is_between (Pg := P) (w := w) (base := base) C D_is_between k_is_integer
  have k_is_square := ok_is_square (Pg := P) (w := w) (base := base) C D_is_square 
  have k_core_told := ok_core_told (Pg := P) (w := w) (base := base) C D_core_told k_is_square
  have k_is_field := ok_is_field (Pg := P) (w := w) (base := base) C D_is_field k_is_between k_core_told
  have k_check_field := ok_check_field (Pg := P) (w := w) (base := base) C D_check_field k_is_field
  have k_common := ok_common (Pg := P) (w := w) (base := base) C D_common 
  have k_is_fraction := ok_is_fraction (Pg := P) (w := w) (base := base) C D_is_fraction k_is_integer k_common
  have k_is_told_fraction := ok_is_told_fraction (Pg := P) (w := w) (base := base) C D_is_told_fraction k_is_fraction
  have k_is_surd := ok_is_surd (Pg := P) (w := w) (base := base) C D_is_surd k_is_told_fraction
  have k_check_surd := ok_check_surd (Pg := P) (w := w) (base := base) C D_check_surd k_is_surd
  have k_floor_root := ok_floor_root (Pg := P) (w := w) (base := base) C D_floor_root 
  have k_surd_floor := ok_surd_floor (Pg := P) (w := w) (base := base) C D_surd_floor k_common k_floor_root
  have k_surd_rounded := ok_surd_rounded (Pg := P) (w := w) (base := base) C D_surd_rounded k_check_field k_check_surd k_surd_floor
  have k_check_two_surds := ok_check_two_surds (Pg := P) (w := w) (base := base) C D_check_two_surds k_check_field k_check_surd
  have k_reduced := ok_reduced (Pg := P) (w := w) (base := base) C D_reduced k_common
  have k_added := ok_added (Pg := P) (w := w) (base := base) C D_added k_reduced
  have k_surd_plus := ok_surd_plus (Pg := P) (w := w) (base := base) C D_surd_plus k_added
  have k_surd_sum := ok_surd_sum (Pg := P) (w := w) (base := base) C D_surd_sum k_check_two_surds k_surd_plus
  have k_is_nothing := ok_is_nothing (Pg := P) (w := w) (base := base) C D_is_nothing 
  have k_product_of := ok_product_of (Pg := P) (w := w) (base := base) C D_product_of k_reduced
  have k_surd_times := ok_surd_times (Pg := P) (w := w) (base := base) C D_surd_times k_product_of k_added
  have k_difference := ok_difference (Pg := P) (w := w) (base := base) C D_difference k_reduced
  have k_norm_of := ok_norm_of (Pg := P) (w := w) (base := base) C D_norm_of k_difference k_product_of
  have k_quotient := ok_quotient (Pg := P) (w := w) (base := base) C D_quotient k_reduced
  have k_surd_inverse := ok_surd_inverse (Pg := P) (w := w) (base := base) C D_surd_inverse k_norm_of k_quotient k_difference
  have k_surd_by := ok_surd_by (Pg := P) (w := w) (base := base) C D_surd_by k_surd_times k_surd_inverse
  have k_surd_parted := ok_surd_parted (Pg := P) (w := w) (base := base) C D_surd_parted k_check_two_surds k_is_nothing k_surd_by
  have k__law_ends := ok_law_ends (Pg := P) (w := w) (base := base) C D__law_ends k__law_take k__law_reduced k_surd_rounded k_surd_sum k_surd_parted
  have k__law_start := ok_law_start (Pg := P) (w := w) (base := base) C D__law_start k__law_take k__law_reduced
  have k__law_floor_root := ok_law_floor_root (Pg := P) (w := w) (base := base) C D__law_floor_root 
  have k__law_floor := ok_law_floor (Pg := P) (w := w) (base := base) C D__law_floor k__law_floor_root
  have k__law_sum := ok_law_sum (Pg := P) (w := w) (base := base) C D__law_sum k__law_reduced
  have k__law_minus := ok_law_minus (Pg := P) (w := w) (base := base) C D__law_minus 
  have k_sign_of := ok_sign_of (Pg := P) (w := w) (base := base) C D_sign_of 
  have k_surd_sign := ok_surd_sign (Pg := P) (w := w) (base := base) C D_surd_sign k_sign_of k_norm_of
  have k_surd_less := ok_surd_less (Pg := P) (w := w) (base := base) C D_surd_less k_difference
  have k_surd_compared := ok_surd_compared (Pg := P) (w := w) (base := base) C D_surd_compared k_check_two_surds k_surd_sign k_surd_less
  have k__law_is_near := ok_law_is_near (Pg := P) (w := w) (base := base) C D__law_is_near k__law_sum k__law_minus k__law_reduced k_surd_compared
  have k__law_parted := ok_law_parted (Pg := P) (w := w) (base := base) C D__law_parted k__law_reduced
  have k__law_times := ok_law_times (Pg := P) (w := w) (base := base) C D__law_times k__law_reduced
  have k_surd_is_less := ok_surd_is_less (Pg := P) (w := w) (base := base) C D_surd_is_less k_surd_sign k_surd_less
  have k_surd_of := ok_surd_of (Pg := P) (w := w) (base := base) C D_surd_of 
  have k_fraction_between := ok_fraction_between (Pg := P) (w := w) (base := base) C D_fraction_between k_surd_floor k_surd_is_less k_surd_of k_surd_times k_common
  have k_surd_between := ok_surd_between (Pg := P) (w := w) (base := base) C D_surd_between k_check_two_surds k_surd_is_less k_fraction_between
  have k__law_goes_on := ok_law_goes_on (Pg := P) (w := w) (base := base) C D__law_goes_on k__law_start k__law_floor k_surd_rounded k__law_is_near k_surd_compared k__law_reduced k_surd_sum k_surd_parted k__law_parted k__law_floor_root k__law_minus k__law_times k_surd_between
  have k__law_right := ok_law_right (Pg := P) (w := w) (base := base) C D__law_right k__law_of k__law_ends k__law_goes_on
  exact ok_law C F k__law_cells k__law_pot k__law_right
end H50
open PySem PySem.W PySem.Calls PyProof.Rows
theorem PySem.Challenge.cw_whennumbersstop_k50_whole_surds_as_fract_holds : PySem.Challenge.rw_whennumbersstop_k50_whole_surds_as_fract.Holds := by
  w_on; o_law
  refine HandSHeadRun.head_imp (r := OpenLaw.row PySem.Challenge.rw_whennumbersstop_k50_whole_surds_as_fract) (q := H50.qv) (H := H50.hk) (ob := H50.ob) (M := 4000) (loose := H50.names) (d := HandSHeadRun.topDef (OpenLaw.row PySem.Challenge.rw_whennumbersstop_k50_whole_surds_as_fract).prog 63) (kwd := []) H50.ob_eq
    H50.run (by kernel_rfl) (by kernel_rfl) (by kernel_rfl) (by rfl) (by first | assumption | decide +kernel) (by decide +kernel) ⟨rfl, rfl, rfl, rfl, rfl, by decide +kernel⟩ ?hw ?hc
  case hw => w_witness2
  case hc =>
    refine L2.walk_ofE (l := PySem.Challenge.rw_whennumbersstop_k50_whole_surds_as_fract) (n := 63) (k := 11) (x := "script") (CX := L2.CX0) rfl (by decide) (by kernel_rfl) ⟨rfl, by decide, by decide⟩ ?F (fun _ _ _ _ z => z)
    intro w mg fa h Y G hmg0
    obtain ⟨K, KX, c⟩ := Y
    have hmg : mg ("law" : PySem.Str) = some (.ref fa) := by
      have e : (HandSHeadRun.topDef (OpenLaw.row PySem.Challenge.rw_whennumbersstop_k50_whole_surds_as_fract).prog 63).name = ("law" : PySem.Str) := by kernel_rfl
      rw [← e]
      exact hmg0
    obtain ⟨fd, hb, hF⟩ := H50.facts (P := (PySem.Challenge.rw_whennumbersstop_k50_whole_surds_as_fract).prog) (w := w) KX G hmg c
    exact ⟨K, fd, DL.spP K H50.c_law, KX, hb, fun H a ns hl _ hS => DL.law_in hS ⟨ns, rfl, rfl⟩ (fun _ => rfl), hF⟩

