import PyProof.Rows.All
import Wide.All
import OpenK.AllK
import Wide.FinOn
import HandS.ForMost
import HandS.Exc
import HandS.TryOnly
import HandS.ExcOwn
import HandS.WordsExc
import HandS.IsInst
import HandS.Style
import HandS.TupAny
import HandS.Wide
import PySem.Challenge.RW_onionpost_k73_parts_reckoned
set_option Elab.async false
set_option linter.all false
set_option maxRecDepth 100000
set_option maxHeartbeats 4000000
/-! data-level walking: values as plain data (PyData), the heap kept out of sight -/
namespace D2
open PySem PySem.Spec PyProof.Rows L2

/-- the most items of a list or tuple here -/
def LIM : Nat := 1000000
theorem lim_le {n : Nat} (h : n ≤ LIM) : n ≤ sizeLine := Nat.le_trans h (by decide)
theorem lim_lt {n : Nat} (h : n ≤ LIM) : n < sizeLine := Nat.lt_of_le_of_lt h (by decide)

/-! ### how a value stands for data in a heap that only grows -/
/-- the script, as data: a list that is read alone -/
def scr (ns : List Int) : PyData := .dict [(.none, .list (ns.map .int))]
def RpS (K : PySem.W.Frag) (G : Hp) (kvs : List (PyData × PyData)) (v : V) : Prop :=
  ∃ (a : Addr) (ns : List Int), v = .ref a ∧ SqL K G a (ns.map V.int) ∧ kvs = [(.none, .list (ns.map .int))]
mutual
def Rp (K : PySem.W.Frag) (G : Hp) : PyData → V → Prop
  | .none, v => v = .non
  | .bool b, v => v = .bl b
  | .int i, v => v = .int i
  | .str x, v => v = .str x
  | .list ds, v => ∃ a xs, v = .ref a ∧ G a = some (.lst xs) ∧ ds.length ≤ LIM ∧ RpA K G ds xs
  | .tuple ds, v => ∃ a xs, v = .ref a ∧ SqT K G a xs ∧ ds.length ≤ LIM ∧ RpA K G ds xs
  | .dict kvs, v => RpS K G kvs v
def RpA (K : PySem.W.Frag) (G : Hp) : List PyData → List V → Prop
  | [], xs => xs = []
  | d :: ds, xs => ∃ v vs, xs = v :: vs ∧ Rp K G d v ∧ RpA K G ds vs
end

theorem same_t {K : PySem.W.Frag} {H H' : Hp} {a : Addr} {xs : List V} (e : Same H H') (h : SqT K H a xs) : SqT K H' a xs := by
  rcases h with (h | ⟨o, h⟩) | h
  · exact .inl (.inl (e _ _ h))
  · exact .inl (.inr ⟨o, e _ _ h⟩)
  · exact .inr h
mutual
theorem Rp.mono {K : PySem.W.Frag} {G G' : Hp} (e : Same G G') : ∀ {d : PyData} {v : V}, Rp K G d v → Rp K G' d v
  | .none, _, h => h
  | .bool _, _, h => h
  | .int _, _, h => h
  | .str _, _, h => h
  | .list _, _, ⟨a, xs, h1, h2, h3, h4⟩ => ⟨a, xs, h1, e _ _ h2, h3, RpA.mono e h4⟩
  | .tuple _, _, ⟨a, xs, h1, h2, h3, h4⟩ => ⟨a, xs, h1, same_t e h2, h3, RpA.mono e h4⟩
  | .dict _, _, ⟨a, ns, h1, h2, h3⟩ => ⟨a, ns, h1, Same.seq e h2, h3⟩
theorem RpA.mono {K : PySem.W.Frag} {G G' : Hp} (e : Same G G') : ∀ {ds : List PyData} {vs : List V}, RpA K G ds vs → RpA K G' ds vs
  | [], _, h => h
  | _ :: _, _, ⟨v, vs, h1, h2, h3⟩ => ⟨v, vs, h1, Rp.mono e h2, RpA.mono e h3⟩
end
mutual
theorem Rp.dp {K : PySem.W.Frag} {G : Hp} : ∀ {d : PyData} {v : V}, d.canLay0 = true → Rp K G d v → Dp K G v d
  | .none, _, _, h => by cases h; exact .non
  | .bool b, _, _, h => by cases h; exact .bl b
  | .int i, _, _, h => by cases h; exact .int i
  | .str x, _, _, h => by cases h; exact .str x
  | .list _, _, c, ⟨a, xs, h1, h2, h3, h4⟩ => by cases h1; exact .lst (SqL.of h2) (RpA.dp c h4)
  | .tuple _, _, c, ⟨a, xs, h1, h2, h3, h4⟩ => by cases h1; exact .tup h2 (RpA.dp c h4)
  | .dict _, _, c, h => by cases c
theorem RpA.dp {K : PySem.W.Frag} {G : Hp} : ∀ {ds : List PyData} {vs : List V}, PyData.canLayAll0 ds = true → RpA K G ds vs → DpAll K G vs ds
  | [], _, _, h => by cases h; exact .nil
  | d :: ds, _, c, ⟨v, vs, h1, h2, h3⟩ => by
    have c' : d.canLay0 = true ∧ PyData.canLayAll0 ds = true := by simpa [PyData.canLayAll0] using c
    cases h1; exact .cons (Rp.dp c'.1 h2) (RpA.dp c'.2 h3)
end
section
variable {K : PySem.W.Frag} {G : Hp}
theorem RpA.length : ∀ {ds : List PyData} {vs : List V}, RpA K G ds vs → vs.length = ds.length
  | [], _, h => by cases h; rfl
  | _ :: _, _, ⟨v, vs, h1, _, h3⟩ => by cases h1; simp [RpA.length h3]
theorem RpA.get : ∀ {ds : List PyData} {vs : List V} {i : Nat} {d : PyData}, RpA K G ds vs → ds[i]? = some d → ∃ v, vs[i]? = some v ∧ Rp K G d v
  | [], _, _, _, _, e => by simp at e
  | _ :: _, _, 0, d, ⟨v, vs, h1, h2, _⟩, e => by cases h1; simp at e; subst e; exact ⟨v, rfl, h2⟩
  | _ :: _, _, i + 1, d, ⟨v, vs, h1, _, h3⟩, e => by
    cases h1
    obtain ⟨u, e1, e2⟩ := RpA.get (i := i) h3 (by simpa using e)
    exact ⟨u, by simpa using e1, e2⟩
theorem RpA.append : ∀ {ds es : List PyData} {vs us : List V}, RpA K G ds vs → RpA K G es us → RpA K G (ds ++ es) (vs ++ us)
  | [], _, _, _, h, h' => by cases h; exact h'
  | _ :: _, _, _, _, ⟨v, vs, h1, h2, h3⟩, h' => by cases h1; exact ⟨v, _, rfl, h2, RpA.append h3 h'⟩
theorem RpA.take : ∀ {ds : List PyData} {vs : List V} (n : Nat), RpA K G ds vs → RpA K G (ds.take n) (vs.take n)
  | _, _, 0, _ => rfl
  | [], _, _ + 1, h => by cases h; rfl
  | _ :: _, _, n + 1, ⟨v, vs, h1, h2, h3⟩ => by cases h1; exact ⟨v, _, rfl, h2, RpA.take n h3⟩
theorem RpA.drop : ∀ {ds : List PyData} {vs : List V} (n : Nat), RpA K G ds vs → RpA K G (ds.drop n) (vs.drop n)
  | _, _, 0, h => h
  | [], _, _ + 1, h => by cases h; rfl
  | _ :: _, _, n + 1, ⟨v, vs, h1, h2, h3⟩ => by cases h1; exact RpA.drop n h3
theorem RpA.reverse : ∀ {ds : List PyData} {vs : List V}, RpA K G ds vs → RpA K G ds.reverse vs.reverse
  | [], _, h => by cases h; rfl
  | _ :: _, _, ⟨v, vs, h1, h2, h3⟩ => by
    cases h1
    rw [List.reverse_cons, List.reverse_cons]
    exact RpA.append (RpA.reverse h3) ⟨v, [], rfl, h2, rfl⟩
theorem RpA.ints : ∀ {ns : List Int} {vs : List V}, RpA K G (ns.map PyData.int) vs → vs = ns.map V.int
  | [], _, h => h
  | _ :: _, _, ⟨v, vs, h1, h2, h3⟩ => by cases h1; cases h2; rw [RpA.ints h3]; rfl
theorem RpA.bools : ∀ {ns : List Bool} {vs : List V}, RpA K G (ns.map PyData.bool) vs → vs = ns.map V.bl
  | [], _, h => h
  | _ :: _, _, ⟨v, vs, h1, h2, h3⟩ => by cases h1; cases h2; rw [RpA.bools h3]; rfl
theorem RpA.snoc {ds : List PyData} {vs : List V} {d : PyData} {v : V} (h : RpA K G ds vs) (h' : Rp K G d v) : RpA K G (ds ++ [d]) (vs ++ [v]) := h.append ⟨v, [], rfl, h', rfl⟩
end

/-! ### growth: G what is known to stay, H all -/
structure Grow (G H G2 H2 : Hp) : Prop where
  gg : Same G G2
  hh : Same H H2
  gh : Same G2 H2
  sep : ∀ a, G a = none → H a ≠ none → G2 a = none
theorem Same.back {H H' : Hp} (e : Same H H') {a : Addr} (h : H' a = none) : H a = none := by
  cases q : H a with
  | none => rfl
  | some o => rw [e a o q] at h; cases h
section
variable {G G1 G2 G3 H H1 H2 H3 : Hp}
theorem Grow.refl (e : Same G H) : Grow G H G H := ⟨Same.refl G, Same.refl H, e, fun _ h _ => h⟩
theorem Grow.trans (a : Grow G H G1 H1) (b : Grow G1 H1 G2 H2) : Grow G H G2 H2 :=
  ⟨a.gg.trans b.gg, a.hh.trans b.hh, b.gh, fun x h1 h2 => b.sep x (a.sep x h1 h2) (by
    cases q : H x with
    | none => exact absurd q h2
    | some o => rw [a.hh x o q]; exact fun z => by cases z)⟩
theorem same_upd {H : Hp} {p : Addr} {o : HO} (h : H p = none) : Same H (upd H p o) := fun b x e => by
  rw [upd_ne (ne_of_none e h)]
  exact e
theorem same_upd2 {p : Addr} {o : HO} (e : Same G H) : Same (upd G p o) (upd H p o) := fun b x q => by
  by_cases hb : b = p
  · subst hb; rw [upd_same] at q ⊢; exact q
  · rw [upd_ne hb] at q ⊢; exact e b x q
/-- a new object -/
theorem Grow.new {p : Addr} {o : HO} (e : Same G H) (h : H p = none) : Grow G H (upd G p o) (upd H p o) :=
  ⟨same_upd (Same.back e h), same_upd h, same_upd2 e, fun a h1 h2 => by
    rw [upd_ne (fun z => h2 (by rw [z]; exact h))]
    exact h1⟩
/-- H alone has grown -/
theorem Grow.quiet (e : Same G H) (e2 : Same H H2) : Grow G H G H2 := ⟨Same.refl G, e2, e.trans e2, fun _ h _ => h⟩
/-- what was reached from a smaller G is reached from a greater one -/
theorem Grow.lift (g : Grow G H G2 H2) (e : Same G G1) (e1 : Same G1 H) : ∃ G3, Grow G1 H G3 H2 ∧ Same G2 G3 := by
  refine ⟨fun a => (G1 a).or (G2 a), ⟨fun a o q => by simp [q], g.hh, fun a o q => ?_, fun a h1 h2 => ?_⟩, fun a o q => ?_⟩
  · cases q1 : G1 a with
    | some x => rw [q1] at q; simp at q; subst q; exact g.hh a x (e1 a x q1)
    | none => rw [q1] at q; simp at q; exact g.gh a o q
  · show (G1 a).or (G2 a) = none
    rw [h1, g.sep a (Same.back e h1) h2]; rfl
  · cases q1 : G1 a with
    | none => simp [q, q1]
    | some x =>
      have e3 : H2 a = some x := g.hh a x (e1 a x q1)
      rw [g.gh a o q] at e3
      simp [q1, e3]
end

/-! ### what a reading evaluates to -/
/-- the slots' data; nothing of a slot is known that has none -/
abbrev Env := List (Option PyData)
structure EnvR (K : PySem.W.Frag) (G : Hp) (ρ : Env) (σ : L2.St) : Prop where
  len : σ.length = ρ.length
  get : ∀ (i : Nat) d, ρ[i]? = some (some d) → ∃ v, σ[i]? = some (some v) ∧ Rp K G d v
def Ev (K : PySem.W.Frag) (te : TE) (σ : L2.St) (G : Hp) (d : PyData) : Prop := ∀ H, Same G H → ∀ Q : VK, (∀ v G2 H2, Grow G H G2 H2 → Rp K G2 d v → Q v H2) → te σ H Q
def EvA (K : PySem.W.Frag) (ta : TA) (σ : L2.St) (G : Hp) (ds : List PyData) : Prop := ∀ H, Same G H → ∀ Q : List V → Hp → Prop, (∀ vs G2 H2, Grow G H G2 H2 → RpA K G2 ds vs → Q vs H2) → ta σ H Q
def EvT (tt : TT) (σ : L2.St) (G : Hp) (b : Bool) : Prop := ∀ H, Same G H → ∀ Q : Bool → Hp → Prop, (∀ H2, Same H H2 → Q b H2) → tt σ H Q
def ED (K : PySem.W.Frag) (te : TE) (ρ : Env) (d : PyData) : Prop := ∀ σ G, EnvR K G ρ σ → Ev K te σ G d
def EDA (K : PySem.W.Frag) (ta : TA) (ρ : Env) (ds : List PyData) : Prop := ∀ σ G, EnvR K G ρ σ → EvA K ta σ G ds
def ET (K : PySem.W.Frag) (tt : TT) (ρ : Env) (b : Bool) : Prop := ∀ σ G, EnvR K G ρ σ → EvT tt σ G b
/-- an operation on values -/
def RV (K : PySem.W.Frag) (r : R2) (x y z : PyData) : Prop := ∀ G H vx vy, Same G H → Rp K G x vx → Rp K G y vy → ∀ Q : VK, (∀ v G2 H2, Grow G H G2 H2 → Rp K G2 z v → Q v H2) → r vx vy H Q
def RU (K : PySem.W.Frag) (r : V → Hp → VK → Prop) (x z : PyData) : Prop := ∀ G H vx, Same G H → Rp K G x vx → ∀ Q : VK, (∀ v G2 H2, Grow G H G2 H2 → Rp K G2 z v → Q v H2) → r vx H Q
def RC (K : PySem.W.Frag) (r : List V → Hp → VK → Prop) (xs : List PyData) (z : PyData) : Prop := ∀ G H vs, Same G H → RpA K G xs vs → ∀ Q : VK, (∀ v G2 H2, Grow G H G2 H2 → Rp K G2 z v → Q v H2) → r vs H Q

section
variable {K : PySem.W.Frag} {σ : L2.St} {G G1 G2 H H1 H2 : Hp} {ta tb tc te : TE} {t u : TT} {ρ : Env} {d x y z : PyData} {ds : List PyData} {b : Bool}
theorem EnvR.mono (e : Same G G1) (h : EnvR K G ρ σ) : EnvR K G1 ρ σ := ⟨h.len, fun i d q => let ⟨v, a, b⟩ := h.get i d q; ⟨v, a, b.mono e⟩⟩
theorem Ev.run (h : Ev K te σ G d) (e : Same G H) {Q : VK} (q : ∀ v G2 H2, Grow G H G2 H2 → Rp K G2 d v → Q v H2) : te σ H Q := h H e Q q
theorem Ev.mono (e : Same G G1) (h : Ev K te σ G d) : Ev K te σ G1 d := fun H s Q q => h H (e.trans s) Q fun v G2 H2 g r => by
  obtain ⟨G3, g3, s3⟩ := g.lift e s
  exact q v G3 H2 g3 (r.mono s3)
theorem EvA.mono {ta : TA} (e : Same G G1) (h : EvA K ta σ G ds) : EvA K ta σ G1 ds := fun H s Q q => h H (e.trans s) Q fun v G2 H2 g r => by
  obtain ⟨G3, g3, s3⟩ := g.lift e s
  exact q v G3 H2 g3 (r.mono s3)
theorem ED.to (h : ED K te ρ d) (e : d = z) : ED K te ρ z := e ▸ h
theorem ET.to {b c : Bool} (h : ET K t ρ b) (e : b = c) : ET K t ρ c := e ▸ h
theorem ed_var {i : Nat} (h : ρ[i]? = some (some d)) : ED K (tVar i) ρ d := fun σ G er H s Q q => by
  obtain ⟨v, e, r⟩ := er.get i d h
  exact ⟨v, e, q v G H (Grow.refl s) r⟩
theorem ed_int {i : Int} : ED K (tC (.int i)) ρ (.int i) := fun σ G er H s Q q => q _ G H (Grow.refl s) rfl
theorem ed_bl {i : Bool} : ED K (tC (.bl i)) ρ (.bool i) := fun σ G er H s Q q => q _ G H (Grow.refl s) rfl
theorem ed_non : ED K (tC .non) ρ .none := fun σ G er H s Q q => q _ G H (Grow.refl s) rfl
theorem ed_str {i : Str} : ED K (tC (.str i)) ρ (.str i) := fun σ G er H s Q q => q _ G H (Grow.refl s) rfl
theorem ed_op {r : R2} (ha : ED K ta ρ x) (hb : ED K tb ρ y) (hr : RV K r x y z) : ED K (tOp r ta tb) ρ z := fun σ G er H s Q q =>
  ha σ G er H s _ fun vx G1 H1 g1 r1 => hb σ G1 (er.mono g1.gg) H1 g1.gh _ fun vy G2 H2 g2 r2 =>
    hr G2 H2 vx vy g2.gh (r1.mono g2.gg) r2 Q fun v G3 H3 g3 r3 => q v G3 H3 ((g1.trans g2).trans g3) r3
theorem ed_un {r : V → Hp → VK → Prop} (ha : ED K ta ρ x) (hr : RU K r x z) : ED K (tUn r ta) ρ z := fun σ G er H s Q q =>
  ha σ G er H s _ fun vx G1 H1 g1 r1 => hr G1 H1 vx g1.gh r1 Q fun v G3 H3 g3 r3 => q v G3 H3 (g1.trans g3) r3
theorem eda_nil : EDA K tNil ρ [] := fun σ G er H s Q q => q [] G H (Grow.refl s) rfl
theorem eda_cons {tr : TA} (ha : ED K ta ρ d) (hr : EDA K tr ρ ds) : EDA K (tCons ta tr) ρ (d :: ds) := fun σ G er H s Q q =>
  ha σ G er H s _ fun vx G1 H1 g1 r1 => hr σ G1 (er.mono g1.gg) H1 g1.gh _ fun vs G2 H2 g2 r2 => q (vx :: vs) G2 H2 (g1.trans g2) ⟨vx, vs, rfl, r1.mono g2.gg, r2⟩
theorem ed_cb {r : List V → Hp → VK → Prop} {t : TA} (ha : EDA K t ρ ds) (hr : RC K r ds z) : ED K (tCB r t) ρ z := fun σ G er H s Q q =>
  ha σ G er H s _ fun vs G1 H1 g1 r1 => hr G1 H1 vs g1.gh r1 Q fun v G3 H3 g3 r3 => q v G3 H3 (g1.trans g3) r3
theorem ed_tup {t : TA} (ha : EDA K t ρ ds) (hl : ds.length ≤ LIM := by first | decide | (simp only [List.length_cons, List.length_nil, List.length_map]; decide)) : ED K (tTup t) ρ (.tuple ds) := fun σ G er H s Q q =>
  ha σ G er H s _ fun vs G1 H1 g1 r1 => ⟨by rw [r1.length]; exact lim_le hl, fun p hp => q _ _ _ (g1.trans (Grow.new g1.gh hp)) ⟨p, vs, rfl, SqT.of upd_same, hl, r1.mono (same_upd (Same.back g1.gh hp))⟩⟩
theorem ed_lst {t : TA} (ha : EDA K t ρ ds) (hl : ds.length ≤ LIM := by first | decide | (simp only [List.length_cons, List.length_nil, List.length_map]; decide)) : ED K (tLst t) ρ (.list ds) := fun σ G er H s Q q =>
  ha σ G er H s _ fun vs G1 H1 g1 r1 => ⟨by rw [r1.length]; exact lim_le hl, fun p hp => q _ _ _ (g1.trans (Grow.new g1.gh hp)) ⟨p, vs, rfl, upd_same, hl, r1.mono (same_upd (Same.back g1.gh hp))⟩⟩

/-! operations -/
theorem rv_I0 {g : Int → Int → V} {i j : Int} {z : PyData} (h : ∀ G, Rp K G z (g i j)) : RV K (rI0 g) (.int i) (.int j) z := fun G H vx vy s hx hy Q q => by
  cases hx; cases hy
  exact ⟨i, j, rfl, rfl, q _ G H (Grow.refl s) (h G)⟩
theorem rv_I {C : Int → Int → Prop} {g : Int → Int → V} {i j : Int} {z : PyData} (hc : C i j) (h : ∀ G, Rp K G z (g i j)) : RV K (rI C g) (.int i) (.int j) z := fun G H vx vy s hx hy Q q => by
  cases hx; cases hy
  exact ⟨i, j, rfl, rfl, hc, q _ G H (Grow.refl s) (h G)⟩
theorem ed_add {i j : Int} (ha : ED K ta ρ (.int i)) (hb : ED K tb ρ (.int j)) : ED K (tOp (rI0 fun i j => .int (i + j)) ta tb) ρ (.int (i + j)) := ed_op ha hb (rv_I0 fun _ => rfl)
theorem ed_sub {i j : Int} (ha : ED K ta ρ (.int i)) (hb : ED K tb ρ (.int j)) : ED K (tOp (rI0 fun i j => .int (i - j)) ta tb) ρ (.int (i - j)) := ed_op ha hb (rv_I0 fun _ => rfl)
theorem ed_mul {i j : Int} (ha : ED K ta ρ (.int i)) (hb : ED K tb ρ (.int j)) (hc : CMul i j) : ED K (tOp (rI CMul fun i j => .int (i * j)) ta tb) ρ (.int (i * j)) := ed_op ha hb (rv_I hc fun _ => rfl)
theorem ed_mod {i j : Int} (ha : ED K ta ρ (.int i)) (hb : ED K tb ρ (.int j)) (hc : 0 < j) : ED K (tOp (rI (fun _ j => 0 < j) fun i j => .int (i % j)) ta tb) ρ (.int (i % j)) := ed_op ha hb (rv_I hc fun _ => rfl)
theorem ed_fdiv {i j : Int} (ha : ED K ta ρ (.int i)) (hb : ED K tb ρ (.int j)) (hc : CDivW i j) : ED K (tOp (rI CDivW fun i j => .int (i / j)) ta tb) ρ (.int (i / j)) := ed_op ha hb (rv_I hc fun _ => rfl)
theorem ed_lt {i j : Int} (ha : ED K ta ρ (.int i)) (hb : ED K tb ρ (.int j)) : ED K (tOp (rI0 fun i j => .bl (decide (i < j))) ta tb) ρ (.bool (decide (i < j))) := ed_op ha hb (rv_I0 fun _ => rfl)
theorem ed_le {i j : Int} (ha : ED K ta ρ (.int i)) (hb : ED K tb ρ (.int j)) : ED K (tOp (rI0 fun i j => .bl (decide (i ≤ j))) ta tb) ρ (.bool (decide (i ≤ j))) := ed_op ha hb (rv_I0 fun _ => rfl)
theorem ed_gt {i j : Int} (ha : ED K ta ρ (.int i)) (hb : ED K tb ρ (.int j)) : ED K (tOp (rI0 fun i j => .bl (decide (j < i))) ta tb) ρ (.bool (decide (j < i))) := ed_op ha hb (rv_I0 fun _ => rfl)
theorem ed_ge {i j : Int} (ha : ED K ta ρ (.int i)) (hb : ED K tb ρ (.int j)) : ED K (tOp (rI0 fun i j => .bl (decide (j ≤ i))) ta tb) ρ (.bool (decide (j ≤ i))) := ed_op ha hb (rv_I0 fun _ => rfl)
/-- == of flat things -/
theorem ed_eq {vx vy : V} {c : Bool} (ha : ED K ta ρ x) (hb : ED K tb ρ y) (h1 : ∀ G v, Rp K G x v → v = vx) (h2 : ∀ G v, Rp K G y v → v = vy) (hs : scal vx vy = true) (hc : decide (vx = vy) = c) : ED K (tOp rEq ta tb) ρ (.bool c) :=
  ed_op ha hb fun G H v w s hx hy Q q => by
    rw [h1 G v hx, h2 G w hy]
    exact ⟨hs, by rw [hc]; exact q _ G H (Grow.refl s) rfl⟩
theorem ed_ne {vx vy : V} {c : Bool} (ha : ED K ta ρ x) (hb : ED K tb ρ y) (h1 : ∀ G v, Rp K G x v → v = vx) (h2 : ∀ G v, Rp K G y v → v = vy) (hs : scal vx vy = true) (hc : (!decide (vx = vy)) = c) : ED K (tOp rNe ta tb) ρ (.bool c) :=
  ed_op ha hb fun G H v w s hx hy Q q => by
    rw [h1 G v hx, h2 G w hy]
    exact ⟨hs, by rw [hc]; exact q _ G H (Grow.refl s) rfl⟩
theorem dec_int (i j : Int) : decide (V.int i = V.int j) = decide (i = j) := decide_eq_decide.mpr ⟨fun h => V.int.inj h, fun h => by rw [h]⟩
theorem dec_str (i j : Str) : decide (V.str i = V.str j) = decide (i = j) := decide_eq_decide.mpr ⟨fun h => V.str.inj h, fun h => by rw [h]⟩
theorem ed_eqI {i j : Int} (ha : ED K ta ρ (.int i)) (hb : ED K tb ρ (.int j)) : ED K (tOp rEq ta tb) ρ (.bool (decide (i = j))) := ed_eq ha hb (fun _ _ h => h) (fun _ _ h => h) rfl (dec_int i j)
theorem ed_neI {i j : Int} (ha : ED K ta ρ (.int i)) (hb : ED K tb ρ (.int j)) : ED K (tOp rNe ta tb) ρ (.bool (!decide (i = j))) := ed_ne ha hb (fun _ _ h => h) (fun _ _ h => h) rfl (by rw [dec_int])
theorem ed_eqS {i j : Str} (ha : ED K ta ρ (.str i)) (hb : ED K tb ρ (.str j)) : ED K (tOp rEq ta tb) ρ (.bool (decide (i = j))) := ed_eq ha hb (fun _ _ h => h) (fun _ _ h => h) rfl (dec_str i j)
theorem ed_neS {i j : Str} (ha : ED K ta ρ (.str i)) (hb : ED K tb ρ (.str j)) : ED K (tOp rNe ta tb) ρ (.bool (!decide (i = j))) := ed_ne ha hb (fun _ _ h => h) (fun _ _ h => h) rfl (by rw [dec_str])
/-- == of data at any depth -/
theorem ed_eqD (ha : ED K ta ρ x) (hb : ED K tb ρ y) (h1 : SeqAt.shaped x = true) (h2 : SeqAt.shaped y = true) : ED K (tOp (rEqD K) ta tb) ρ (.bool (PyData.eqv x y)) :=
  ed_op ha hb fun G H v w s hx hy Q q => ⟨x, y, (hx.mono s).dp (SeqAt.canLay_of_shaped h1), (hy.mono s).dp (SeqAt.canLay_of_shaped h2), h1, h2, q _ G H (Grow.refl s) rfl⟩
theorem ed_neD (ha : ED K ta ρ x) (hb : ED K tb ρ y) (h1 : SeqAt.shaped x = true) (h2 : SeqAt.shaped y = true) : ED K (tOp (rNeD K) ta tb) ρ (.bool (!PyData.eqv x y)) :=
  ed_op ha hb fun G H v w s hx hy Q q => ⟨x, y, (hx.mono s).dp (SeqAt.canLay_of_shaped h1), (hy.mono s).dp (SeqAt.canLay_of_shaped h2), h1, h2, q _ G H (Grow.refl s) rfl⟩
theorem ed_isB {i j : Bool} (ha : ED K ta ρ (.bool i)) (hb : ED K tb ρ (.bool j)) : ED K (tOp rIsB ta tb) ρ (.bool (decide (i = j))) :=
  ed_op ha hb fun G H v w s hx hy Q q => by
    cases hx; cases hy
    exact ⟨i, j, rfl, rfl, q _ G H (Grow.refl s) rfl⟩
theorem ed_notB {i j : Bool} (ha : ED K ta ρ (.bool i)) (hb : ED K tb ρ (.bool j)) : ED K (tOp rNotB ta tb) ρ (.bool (!decide (i = j))) :=
  ed_op ha hb fun G H v w s hx hy Q q => by
    cases hx; cases hy
    exact ⟨i, j, rfl, rfl, q _ G H (Grow.refl s) rfl⟩
/-- t[i], l[i] -/
theorem ed_ixT {i : Int} (ha : ED K ta ρ (.tuple ds)) (hb : ED K tb ρ (.int i)) {j : Nat} (hj : ixN ds.length i = some j) (hd : ds[j]? = some d) : ED K (tOp (rIxT K) ta tb) ρ d :=
  ed_op ha hb fun G H v w s hx hy Q q => by
    cases hy
    obtain ⟨a, xs, rfl, h2, h3, h4⟩ := hx
    obtain ⟨v, hv, rv⟩ := h4.get hd
    exact ⟨a, xs, i, v, rfl, rfl, same_t s h2, by unfold atI; rw [h4.length, hj]; exact hv, q _ G H (Grow.refl s) rv⟩
theorem ed_ixL {i : Int} (ha : ED K ta ρ (.list ds)) (hb : ED K tb ρ (.int i)) {j : Nat} (hj : ixN ds.length i = some j) (hd : ds[j]? = some d) : ED K (tOp (rIxL K) ta tb) ρ d :=
  ed_op ha hb fun G H v w s hx hy Q q => by
    cases hy
    obtain ⟨a, xs, rfl, h2, h3, h4⟩ := hx
    obtain ⟨v, hv, rv⟩ := h4.get hd
    exact ⟨a, xs, i, v, rfl, rfl, SqL.of (s _ _ h2), by unfold atI; rw [h4.length, hj]; exact hv, q _ G H (Grow.refl s) rv⟩
theorem ixN_nat {n j : Nat} (h : j < n) : ixN n (j : Int) = some j := by
  unfold ixN
  simp [h]
end
end D2

set_option Elab.async false
set_option linter.all false
set_option maxRecDepth 100000
set_option maxHeartbeats 4000000
namespace D2
open PySem PySem.Spec PyProof.Rows L2
section
variable {K : PySem.W.Frag} {σ : L2.St} {G G1 G2 H H1 H2 : Hp} {ta tb tc te : TE} {t u : TT} {ρ : Env} {d x y z : PyData} {ds es : List PyData} {b c : Bool}
/-! tests -/
theorem et_cmp (h : ED K te ρ (.bool b)) : ET K (tTest te) ρ b := fun σ G er H s Q q => h σ G er H s _ fun v G2 H2 g r => by
  cases r
  exact ⟨b, rfl, q H2 g.hh⟩
theorem et_val (h : ED K te ρ (.bool b)) : ET K (tB te) ρ b := fun σ G er H s Q q => h σ G er H s _ fun v G2 H2 g r => by
  cases r
  exact ⟨b, rfl, q H2 g.hh⟩
/-- the truth of data -/
def truD : PyData → Bool
  | .none => false
  | .bool b => b
  | .int i => i != 0
  | .str x => x.length != 0
  | .list ds => !ds.isEmpty
  | .tuple ds => !ds.isEmpty
  | .dict _ => true
theorem len_nil {α β : Type} {xs : List α} {ys : List β} (h : xs.length = ys.length) : xs.isEmpty = ys.isEmpty := by
  cases xs <;> cases ys <;> simp_all
theorem et_truL (h : ED K te ρ (.list ds)) : ET K (fun σ H Q => te σ H fun x H' => ∃ k, TruV K x H' k ∧ Q k H') ρ (!ds.isEmpty) := fun σ G er H s Q q => h σ G er H s _ fun v G2 H2 g r => by
  obtain ⟨a, xs, rfl, h2, h3, h4⟩ := r
  refine ⟨_, .inl ⟨xs, SqL.of (g.gh _ _ h2), rfl⟩, ?_⟩
  rw [len_nil h4.length]
  exact q H2 g.hh
theorem et_truT (h : ED K te ρ (.tuple ds)) : ET K (fun σ H Q => te σ H fun x H' => ∃ k, TruV K x H' k ∧ Q k H') ρ (!ds.isEmpty) := fun σ G er H s Q q => h σ G er H s _ fun v G2 H2 g r => by
  obtain ⟨a, xs, rfl, h2, h3, h4⟩ := r
  refine ⟨_, .inr (.inl ⟨xs, same_t g.gh h2, rfl⟩), ?_⟩
  rw [len_nil h4.length]
  exact q H2 g.hh
theorem et_truB (h : ED K te ρ (.bool b)) : ET K (fun σ H Q => te σ H fun x H' => ∃ k, TruV K x H' k ∧ Q k H') ρ b := fun σ G er H s Q q => h σ G er H s _ fun v G2 H2 g r => by
  cases r
  exact ⟨_, rfl, q H2 g.hh⟩
theorem et_not (h : ET K t ρ b) : ET K (tNot t) ρ (!b) := fun σ G er H s Q q => h σ G er H s _ fun H2 e => q H2 e
/-- a and b: b is looked at where a holds -/
theorem et_and (h1 : ET K t ρ b) (h2 : b = true → ET K u ρ c) : ET K (tAnd t u) ρ (b && c) := fun σ G er H s Q q => h1 σ G er H s _ fun H2 e => by
  cases b with
  | false => exact iteF (q H2 e)
  | true => exact iteT (h2 rfl σ G er H2 (s.trans e) _ fun H3 e3 => q H3 (e.trans e3))
theorem et_or (h1 : ET K t ρ b) (h2 : b = false → ET K u ρ c) : ET K (tOr t u) ρ (b || c) := fun σ G er H s Q q => h1 σ G er H s _ fun H2 e => by
  cases b with
  | true => exact iteT (q H2 e)
  | false => exact iteF (h2 rfl σ G er H2 (s.trans e) _ fun H3 e3 => q H3 (e.trans e3))
theorem ed_and (h1 : ED K ta ρ (.bool b)) (h2 : b = true → ED K tb ρ (.bool c)) : ED K (tAndV ta tb) ρ (.bool (b && c)) := fun σ G er H s Q q => h1 σ G er H s _ fun v G2 H2 g r => by
  cases r
  refine ⟨b, rfl, ?_⟩
  cases b with
  | false => exact iteF (q _ G2 H2 g rfl)
  | true => exact iteT (h2 rfl σ G2 (er.mono g.gg) H2 g.gh Q fun v G3 H3 g3 r3 => q v G3 H3 (g.trans g3) r3)
theorem ed_or (h1 : ED K ta ρ (.bool b)) (h2 : b = false → ED K tb ρ (.bool c)) : ED K (tOrV ta tb) ρ (.bool (b || c)) := fun σ G er H s Q q => h1 σ G er H s _ fun v G2 H2 g r => by
  cases r
  refine ⟨b, rfl, ?_⟩
  cases b with
  | true => exact iteT (q _ G2 H2 g rfl)
  | false => exact iteF (h2 rfl σ G2 (er.mono g.gg) H2 g.gh Q fun v G3 H3 g3 r3 => q v G3 H3 (g.trans g3) r3)
theorem ed_not (h : ED K ta ρ (.bool b)) : ED K (tNotV ta) ρ (.bool (!b)) := fun σ G er H s Q q => h σ G er H s _ fun v G2 H2 g r => by
  cases r
  exact ⟨b, rfl, q _ G2 H2 g rfl⟩
theorem ed_if (hc : ET K t ρ b) (h1 : b = true → ED K ta ρ d) (h2 : b = false → ED K tb ρ d) : ED K (tIf t ta tb) ρ d := fun σ G er H s Q q => hc σ G er H s _ fun H2 e => by
  cases b with
  | true => exact iteT (h1 rfl σ G er H2 (s.trans e) Q fun v G3 H3 g3 r3 => q v G3 H3 ((Grow.quiet s e).trans g3) r3)
  | false => exact iteF (h2 rfl σ G er H2 (s.trans e) Q fun v G3 H3 g3 r3 => q v G3 H3 ((Grow.quiet s e).trans g3) r3)
/-! parts of slices -/
def EDO (K : PySem.W.Frag) (to : TO) (ρ : Env) (o : Option Int) : Prop := ∀ σ G, EnvR K G ρ σ → ∀ H, Same G H → ∀ Q : Option Int → Hp → Prop, (∀ H2, Same H H2 → Q o H2) → to σ H Q
theorem edo_none : EDO K tNoPart ρ none := fun σ G er H s Q q => q H (Same.refl H)
theorem edo_some {i : Int} (h : ED K te ρ (.int i)) : EDO K (tPart te) ρ (some i) := fun σ G er H s Q q => h σ G er H s _ fun v G2 H2 g r => by
  cases r
  exact ⟨i, rfl, q H2 g.hh⟩
def cutD {α : Type} (xs : List α) (lo hi : Option Int) : List α := (xs.drop (HT.sIx xs.length 0 lo)).take (HT.sIx xs.length xs.length hi - HT.sIx xs.length 0 lo)
theorem RpA.cut {vs : List V} {lo hi : Option Int} (h : RpA K G ds vs) : RpA K G (cutD ds lo hi) (cutV vs lo hi) := by
  unfold cutD cutV
  rw [h.length]
  exact (h.drop _).take _
theorem cut_len {α : Type} (xs : List α) (lo hi : Option Int) : (cutD xs lo hi).length ≤ xs.length := by
  unfold cutD
  rw [List.length_take, List.length_drop]
  omega
theorem ed_slL {lo hi : Option Int} {tl th : TO} (h : ED K te ρ (.list ds)) (h1 : EDO K tl ρ lo) (h2 : EDO K th ρ hi) : ED K (tSl (rSlL K) te tl th) ρ (.list (cutD ds lo hi)) := fun σ G er H s Q q =>
  h σ G er H s _ fun v G2 H2 g r => h1 σ G2 (er.mono g.gg) H2 g.gh _ fun H3 e3 => h2 σ G2 (er.mono g.gg) H3 (g.gh.trans e3) _ fun H4 e4 => by
    obtain ⟨a, xs, rfl, r2, r3, r4⟩ := r
    have s4 : Same G2 H4 := (g.gh.trans e3).trans e4
    refine ⟨a, xs, rfl, SqL.of (s4 _ _ r2), fun p hp => q _ _ _ ((g.trans (Grow.quiet g.gh (e3.trans e4))).trans (Grow.new s4 hp)) ⟨p, _, rfl, upd_same, Nat.le_trans (cut_len _ _ _) r3, (r4.cut).mono (same_upd (Same.back s4 hp))⟩⟩
theorem cut_whole {α : Type} {xs : List α} {lo hi : Option Int} (h : HT.sIx xs.length 0 lo = 0 ∧ HT.sIx xs.length xs.length hi = xs.length) : cutD xs lo hi = xs := by
  unfold cutD
  rw [h.1, h.2]
  simp
theorem ed_slT {lo hi : Option Int} {tl th : TO} (h : ED K te ρ (.tuple ds)) (h1 : EDO K tl ρ lo) (h2 : EDO K th ρ hi) : ED K (tSl (rSlA K) te tl th) ρ (.tuple (cutD ds lo hi)) := fun σ G er H s Q q =>
  h σ G er H s _ fun v G2 H2 g r => h1 σ G2 (er.mono g.gg) H2 g.gh _ fun H3 e3 => h2 σ G2 (er.mono g.gg) H3 (g.gh.trans e3) _ fun H4 e4 => by
    obtain ⟨a, xs, rfl, r2, r3, r4⟩ := r
    have s4 : Same G2 H4 := (g.gh.trans e3).trans e4
    have hl := r4.length
    refine ⟨a, xs, rfl, same_t s4 r2, fun w => ?_, fun _ p hp => q _ _ _ ((g.trans (Grow.quiet g.gh (e3.trans e4))).trans (Grow.new s4 hp)) ⟨p, _, rfl, SqT.of upd_same, Nat.le_trans (cut_len _ _ _) r3, (r4.cut).mono (same_upd (Same.back s4 hp))⟩⟩
    rw [hl] at w
    rw [cut_whole w] at q
    exact q _ G2 H4 (g.trans (Grow.quiet g.gh (e3.trans e4))) ⟨a, xs, rfl, r2, r3, r4⟩
theorem ed_rev (h : ED K te ρ (.list ds)) : ED K (tRevL K te) ρ (.list ds.reverse) := fun σ G er H s Q q => h σ G er H s _ fun v G2 H2 g r => by
  obtain ⟨a, xs, rfl, r2, r3, r4⟩ := r
  exact ⟨a, xs, rfl, SqL.of (g.gh _ _ r2), fun p hp => q _ _ _ (g.trans (Grow.new g.gh hp)) ⟨p, _, rfl, upd_same, by rw [List.length_reverse]; exact r3, (r4.reverse).mono (same_upd (Same.back g.gh hp))⟩⟩
/-! + of lists, tuples -/
theorem ed_catL (ha : ED K ta ρ (.list ds)) (hb : ED K tb ρ (.list es)) (hl : (ds ++ es).length ≤ LIM) : ED K (tOp rCat ta tb) ρ (.list (ds ++ es)) := ed_op ha hb fun G H v w s hx hy Q q => by
  obtain ⟨a, xs, rfl, a2, a3, a4⟩ := hx
  obtain ⟨b, ys, rfl, b2, b3, b4⟩ := hy
  refine ⟨a, b, xs, ys, rfl, rfl, s _ _ a2, s _ _ b2, ?_, fun p hp => q _ _ _ (Grow.new s hp) ⟨p, _, rfl, upd_same, hl, (a4.append b4).mono (same_upd (Same.back s hp))⟩⟩
  rw [a4.length, b4.length, ← List.length_append]
  exact lim_le hl
theorem ed_catT (ha : ED K ta ρ (.tuple ds)) (hb : ED K tb ρ (.tuple es)) (hl : (ds ++ es).length ≤ LIM) : ED K (tOp (rCatA K) ta tb) ρ (.tuple (ds ++ es)) := ed_op ha hb fun G H v w s hx hy Q q => by
  obtain ⟨a, xs, rfl, a2, a3, a4⟩ := hx
  obtain ⟨b, ys, rfl, b2, b3, b4⟩ := hy
  have l1 := a4.length
  have l2 := b4.length
  refine ⟨a, b, xs, ys, rfl, rfl, same_t s a2, same_t s b2, ?_, fun e => ?_, fun _ e => ?_, fun _ _ p hp => q _ _ _ (Grow.new s hp) ⟨p, _, rfl, SqT.of upd_same, hl, (a4.append b4).mono (same_upd (Same.back s hp))⟩⟩
  · rw [l1, l2, ← List.length_append]
    exact lim_le hl
  · subst e
    have : ds = [] := List.length_eq_zero_iff.mp l1.symm
    subst this
    exact q _ G H (Grow.refl s) ⟨b, ys, rfl, b2, b3, b4⟩
  · subst e
    have : es = [] := List.length_eq_zero_iff.mp l2.symm
    subst this
    rw [List.append_nil] at q
    exact q _ G H (Grow.refl s) ⟨a, xs, rfl, a2, a3, a4⟩
/-! built-ins -/
theorem rc_lenL : RC K (fun xs H Q => ∃ p ys, xs = [.ref p] ∧ (SqL K H p ys ∨ SqT K H p ys) ∧ Q (.int ys.length) H) [.list ds] (.int ds.length) := fun G H vs s hv Q q => by
  obtain ⟨v, vs, rfl, ⟨a, xs, rfl, h2, h3, h4⟩, rfl⟩ := hv
  refine ⟨a, xs, rfl, .inl (SqL.of (s _ _ h2)), ?_⟩
  rw [h4.length]
  exact q _ G H (Grow.refl s) rfl
theorem rc_lenT : RC K (fun xs H Q => ∃ p ys, xs = [.ref p] ∧ (SqL K H p ys ∨ SqT K H p ys) ∧ Q (.int ys.length) H) [.tuple ds] (.int ds.length) := fun G H vs s hv Q q => by
  obtain ⟨v, vs, rfl, ⟨a, xs, rfl, h2, h3, h4⟩, rfl⟩ := hv
  refine ⟨a, xs, rfl, .inr (same_t s h2), ?_⟩
  rw [h4.length]
  exact q _ G H (Grow.refl s) rfl
theorem rc_list_l : RC K (fun xs H Q => ∃ p ys, xs = [.ref p] ∧ (SqL K H p ys ∨ SqT K H p ys) ∧ ∀ l, H l = none → Q (.ref l) (upd H l (.lst ys))) [.list ds] (.list ds) := fun G H vs s hv Q q => by
  obtain ⟨v, vs, rfl, ⟨a, xs, rfl, h2, h3, h4⟩, rfl⟩ := hv
  exact ⟨a, xs, rfl, .inl (SqL.of (s _ _ h2)), fun p hp => q _ _ _ (Grow.new s hp) ⟨p, _, rfl, upd_same, h3, h4.mono (same_upd (Same.back s hp))⟩⟩
theorem rc_list_t : RC K (fun xs H Q => ∃ p ys, xs = [.ref p] ∧ (SqL K H p ys ∨ SqT K H p ys) ∧ ∀ l, H l = none → Q (.ref l) (upd H l (.lst ys))) [.tuple ds] (.list ds) := fun G H vs s hv Q q => by
  obtain ⟨v, vs, rfl, ⟨a, xs, rfl, h2, h3, h4⟩, rfl⟩ := hv
  exact ⟨a, xs, rfl, .inr (same_t s h2), fun p hp => q _ _ _ (Grow.new s hp) ⟨p, _, rfl, upd_same, h3, h4.mono (same_upd (Same.back s hp))⟩⟩
theorem rc_tuple_l : RC K (fun xs H Q => ∃ p ys, xs = [.ref p] ∧ ((SqL K H p ys ∧ ∀ l, H l = none → Q (.ref l) (upd H l (.tup ys))) ∨ (SqT K H p ys ∧ Q (.ref p) H))) [.list ds] (.tuple ds) := fun G H vs s hv Q q => by
  obtain ⟨v, vs, rfl, ⟨a, xs, rfl, h2, h3, h4⟩, rfl⟩ := hv
  exact ⟨a, xs, rfl, .inl ⟨SqL.of (s _ _ h2), fun p hp => q _ _ _ (Grow.new s hp) ⟨p, _, rfl, SqT.of upd_same, h3, h4.mono (same_upd (Same.back s hp))⟩⟩⟩
theorem rc_tuple_t : RC K (fun xs H Q => ∃ p ys, xs = [.ref p] ∧ ((SqL K H p ys ∧ ∀ l, H l = none → Q (.ref l) (upd H l (.tup ys))) ∨ (SqT K H p ys ∧ Q (.ref p) H))) [.tuple ds] (.tuple ds) := fun G H vs s hv Q q => by
  obtain ⟨v, vs, rfl, ⟨a, xs, rfl, h2, h3, h4⟩, rfl⟩ := hv
  exact ⟨a, xs, rfl, .inr ⟨same_t s h2, q _ G H (Grow.refl s) ⟨a, xs, rfl, h2, h3, h4⟩⟩⟩
theorem rc_int {i : Int} : RC K (fun xs H Q => (∃ i, xs = [.int i] ∧ Q (.int i) H) ∨ ∃ k, xs = [.bl k] ∧ Q (.int (if k then 1 else 0)) H) [.int i] (.int i) := fun G H vs s hv Q q => by
  obtain ⟨v, vs, rfl, h, rfl⟩ := hv
  cases h
  exact .inl ⟨i, rfl, q _ G H (Grow.refl s) rfl⟩
theorem rc_sum {ns : List Int} : RC K (rSum K) [.list (ns.map .int)] (.int ns.sum) := fun G H vs s hv Q q => by
  obtain ⟨v, vs, rfl, ⟨a, xs, rfl, h2, h3, h4⟩, rfl⟩ := hv
  have := h4.ints
  subst this
  exact ⟨a, ns, rfl, SqL.of (s _ _ h2), q _ G H (Grow.refl s) rfl⟩
theorem rc_all {bs : List Bool} : RC K (rAll K) [.list (bs.map .bool)] (.bool (bs.all id)) := fun G H vs s hv Q q => by
  obtain ⟨v, vs, rfl, ⟨a, xs, rfl, h2, h3, h4⟩, rfl⟩ := hv
  have := h4.bools
  subst this
  exact ⟨a, bs, rfl, SqL.of (s _ _ h2), q _ G H (Grow.refl s) rfl⟩
theorem rc_any {bs : List Bool} : RC K (rAny K) [.list (bs.map .bool)] (.bool (bs.any id)) := fun G H vs s hv Q q => by
  obtain ⟨v, vs, rfl, ⟨a, xs, rfl, h2, h3, h4⟩, rfl⟩ := hv
  have := h4.bools
  subst this
  exact ⟨a, bs, rfl, SqL.of (s _ _ h2), q _ G H (Grow.refl s) rfl⟩
theorem rc_max2 {i j : Int} : RC K (fun xs H Q => ∃ i j, xs = [.int i, .int j] ∧ Q (.int (if j > i then j else i)) H) [.int i, .int j] (.int (if j > i then j else i)) := fun G H vs s hv Q q => by
  obtain ⟨v, vs, rfl, h, w, ws, rfl, h', rfl⟩ := hv
  cases h; cases h'
  exact ⟨i, j, rfl, q _ G H (Grow.refl s) rfl⟩
theorem rc_min2 {i j : Int} : RC K (fun xs H Q => ∃ i j, xs = [.int i, .int j] ∧ Q (.int (if j < i then j else i)) H) [.int i, .int j] (.int (if j < i then j else i)) := fun G H vs s hv Q q => by
  obtain ⟨v, vs, rfl, h, w, ws, rfl, h', rfl⟩ := hv
  cases h; cases h'
  exact ⟨i, j, rfl, q _ G H (Grow.refl s) rfl⟩
/-! isinstance -/
def isD : PyData → Bool
  | .dict _ => true
  | _ => false
def tyOf : PyData → String
  | .none => "NoneType"
  | .bool _ => "bool"
  | .int _ => "int"
  | .str _ => "str"
  | .list _ => "list"
  | .tuple _ => "tuple"
  | .dict _ => "dict"
theorem ty_of {v : V} : ∀ {d : PyData}, Rp K G d v → isD d = false → TyX K G v (.type (tyOf d))
  | .none, h, _ => by cases h; exact .base .non
  | .bool b, h, _ => by cases h; exact .base (.bl b)
  | .int i, h, _ => by cases h; exact .base (.int i)
  | .str x, h, _ => by cases h; exact .base (.str x)
  | .list _, ⟨a, xs, h1, h2, h3, h4⟩, _ => by cases h1; exact .base (.lst h2)
  | .tuple _, ⟨a, xs, h1, h2, h3, h4⟩, _ => by
    cases h1
    rcases h2 with (h2 | ⟨o, h2⟩) | ⟨o, its, n, h2, h5, _⟩
    · exact .base (.tup h2)
    · exact .fTuple h2
    · exact .kTuple h2 h5
  | .dict _, _, c => by cases c
theorem ed_isi {n : String} {d : PyData} (hn : isD d = false) (ha : ED K ta ρ d) (hk : kitB (tyOf d) n = some b) : ED K (tCB (rIsi K) (tCons ta (tCons (tC (.ty n)) tNil))) ρ (.bool b) := fun σ G er H s Q q =>
  ha σ G er H s _ fun v G2 H2 g r => ⟨v, .ty n, _, _, b, rfl, .ty n, ty_of (r.mono g.gh) hn, kit_ty hk, q _ G2 H2 g rfl⟩
end
end D2

set_option Elab.async false
set_option linter.all false
set_option maxRecDepth 100000
set_option maxHeartbeats 4000000
namespace D2
open PySem PySem.Spec PyProof.Rows L2
/-! ### slots that are stored -/
section
variable {K : PySem.W.Frag} {σ : L2.St} {G G1 G2 H H1 H2 : Hp} {ρ : Env} {d : PyData} {v : V}
theorem EnvR.set (i : Nat) (h : EnvR K G ρ σ) (r : Rp K G d v) : EnvR K G (ρ.set i (some d)) (σ.set i (some v)) := by
  refine ⟨by simp [h.len], fun j e q => ?_⟩
  rw [List.getElem?_set] at q
  by_cases hj : i = j
  · subst hj
    by_cases hi : i < ρ.length
    · rw [if_pos rfl, if_pos hi] at q
      cases q
      exact ⟨v, by rw [List.getElem?_set, if_pos rfl, if_pos (by rw [h.len]; exact hi)], r⟩
    · rw [if_pos rfl, if_neg hi] at q; cases q
  · rw [if_neg hj] at q
    obtain ⟨u, e1, e2⟩ := h.get j e q
    exact ⟨u, by rw [List.getElem?_set, if_neg hj]; exact e1, e2⟩
theorem EnvR.unset (i : Nat) (x : Option V) (h : EnvR K G ρ σ) : EnvR K G (ρ.set i none) (σ.set i x) := by
  refine ⟨by simp [h.len], fun j e q => ?_⟩
  rw [List.getElem?_set] at q
  by_cases hj : i = j
  · subst hj
    rw [if_pos rfl] at q
    split at q <;> cases q
  · rw [if_neg hj] at q
    obtain ⟨u, e1, e2⟩ := h.get j e q
    exact ⟨u, by rw [List.getElem?_set, if_neg hj]; exact e1, e2⟩
def wipeD (ρ : Env) : List Nat → Env
  | [] => ρ
  | v :: vs => (wipeD ρ vs).set v none
theorem EnvR.wipe (h : EnvR K G ρ σ) : ∀ vs : List Nat, EnvR K G (wipeD ρ vs) (L2.wipe σ vs)
  | [] => h
  | v :: vs => (EnvR.wipe h vs).unset v none
theorem wipe_get {σ : L2.St} : ∀ (vs : List Nat) (j : Nat), j ∉ vs → (L2.wipe σ vs)[j]? = σ[j]?
  | [], _, _ => rfl
  | v :: vs, j, h => by
    unfold L2.wipe
    rw [List.getElem?_set, if_neg (fun e => h (by simp [e])), wipe_get vs j (fun q => h (List.mem_cons_of_mem _ q))]
theorem wipe_in {σ : L2.St} : ∀ (vs : List Nat) (j : Nat), j ∈ vs → (L2.wipe σ vs)[j]? = if j < σ.length then some none else none
  | [], _, h => by simp at h
  | v :: vs, j, h => by
    unfold L2.wipe
    rw [List.getElem?_set]
    by_cases e : v = j
    · subst e
      rw [if_pos rfl, L2.wipe_length]
    · rw [if_neg e, wipe_in vs j (by simpa [Ne.symm e] using h)]
theorem wipe_set {σ : L2.St} {i : Nat} {x : Option V} (vs : List Nat) (h : i ∈ vs) : L2.wipe (σ.set i x) vs = L2.wipe σ vs := by
  apply List.ext_getElem?
  intro j
  by_cases hj : j ∈ vs
  · rw [wipe_in vs j hj, wipe_in vs j hj, List.length_set]
  · rw [wipe_get vs j hj, wipe_get vs j hj, List.getElem?_set, if_neg]
    intro e; subst e; exact hj h
end

/-! ### targets -/
def GD (K : PySem.W.Frag) (g : TG) (ρ : Env) (d : PyData) (ρ' : Env) (vs : List Nat) : Prop := ∀ (σ : L2.St) (G H : Hp) (v : V), EnvR K G ρ σ → Same G H → Rp K G d v → ∀ Q : L2.St → Hp → Prop,
  (∀ σ', EnvR K G ρ' σ' → L2.wipe σ' vs = L2.wipe σ vs → Q σ' H) → g v σ H Q
def GDs (K : PySem.W.Frag) (g : TGs) (ρ : Env) (ds : List PyData) (ρ' : Env) (vs : List Nat) : Prop := ∀ (σ : L2.St) (G H : Hp) (us : List V), EnvR K G ρ σ → Same G H → RpA K G ds us → ∀ Q : L2.St → Hp → Prop,
  (∀ σ', EnvR K G ρ' σ' → L2.wipe σ' vs = L2.wipe σ vs → Q σ' H) → g us σ H Q
section
variable {K : PySem.W.Frag} {ρ ρ1 ρ2 : Env} {d : PyData} {ds : List PyData} {vs : List Nat}
theorem gd_name {i : Nat} (h : i ∈ vs) : GD K (gName i) ρ d (ρ.set i (some d)) vs := fun σ G H v er s r Q q => q _ (er.set i r) (wipe_set vs h)
theorem gd_nil : GDs K gNil ρ [] ρ vs := fun σ G H us er s r Q q => ⟨r, q σ er rfl⟩
theorem gd_cons {t : TG} {u : TGs} (h1 : GD K t ρ d ρ1 vs) (h2 : GDs K u ρ1 ds ρ2 vs) : GDs K (gCons t u) ρ (d :: ds) ρ2 vs := fun σ G H us er s r Q q => by
  obtain ⟨v, us, rfl, r1, r2⟩ := r
  refine ⟨v, us, rfl, h1 σ G H v er s r1 _ fun σ1 er1 w1 => h2 σ1 G H us er1 s r2 Q fun σ2 er2 w2 => q σ2 er2 (w2.trans w1)⟩
theorem gd_tup {n : Nat} {t : TGs} (h : GDs K t ρ ds ρ1 vs) (hn : ds.length = n) : GD K (gTup K n t) ρ (.tuple ds) ρ1 vs := fun σ G H v er s r Q q => by
  obtain ⟨a, xs, rfl, r2, r3, r4⟩ := r
  exact ⟨a, xs, rfl, same_t s r2, r4.length.trans hn, h σ G H xs er s r4 Q q⟩
end

/-! ### what is walked -/
structure ItD (K : PySem.W.Frag) (J : It) (G : Hp) (ds : List PyData) : Prop where
  stop : ∀ i H, Same G H → ds.length ≤ i → J.stop i H
  go : ∀ i H, Same G H → i < ds.length → J.go i H
  yld : ∀ i x H H', Same G H → i < ds.length → J.yld i H x H' → ∃ G' d, Grow G H G' H' ∧ ds[i]? = some d ∧ Rp K G' d x
def IT (K : PySem.W.Frag) (wi : TI) (ρ : Env) (ds : List PyData) : Prop := ∀ σ G, EnvR K G ρ σ → ∀ H, Same G H → ∀ R : It → Hp → Prop, (∀ J G2 H2, Grow G H G2 H2 → ItD K J G2 ds → R J H2) → wi σ H R
section
variable {K : PySem.W.Frag} {G : Hp} {ρ : Env} {te : TE} {ta : TA} {ds es : List PyData}
theorem ItD.mono {J : It} {G1 : Hp} (h : ItD K J G ds) (e : Same G G1) : ItD K J G1 ds :=
  ⟨fun i H s => h.stop i H (e.trans s), fun i H s => h.go i H (e.trans s), fun i x H H' s hi y => by
    obtain ⟨G', d, g, e1, r⟩ := h.yld i x H H' (e.trans s) hi y
    obtain ⟨G3, g3, s3⟩ := g.lift e s
    exact ⟨G3, d, g3, e1, r.mono s3⟩⟩
theorem lt_get {α : Type} {xs : List α} {i : Nat} (h : i < xs.length) : ∃ x, xs[i]? = some x := ⟨_, List.getElem?_eq_getElem h⟩
theorem it_list (h : ED K te ρ (.list ds)) : IT K (iList K te) ρ ds := fun σ G er H s R q => h σ G er H s _ fun v G2 H2 g r => by
  obtain ⟨a, xs, rfl, r2, r3, r4⟩ := r
  refine ⟨a, rfl, ⟨xs, SqL.of (g.gh _ _ r2)⟩, q _ G2 H2 g ⟨fun i H s hi => ⟨xs, SqL.of (s _ _ r2), by rw [r4.length]; exact hi⟩, fun i H s hi => ?_, fun i x H H' s hi y => ?_⟩⟩
  · obtain ⟨x, hx⟩ := lt_get (xs := xs) (i := i) (by rw [r4.length]; exact hi)
    exact ⟨xs, x, SqL.of (s _ _ r2), hx⟩
  · obtain ⟨rfl, y⟩ := y
    obtain ⟨d, hd⟩ := lt_get hi
    obtain ⟨v, hv, rv⟩ := r4.get hd
    have e := y xs (SqL.of (s _ _ r2))
    rw [hv] at e
    cases e
    exact ⟨G2, d, Grow.refl s, hd, rv⟩
theorem it_tup (h : ED K te ρ (.tuple ds)) : IT K (iTup K te) ρ ds := fun σ G er H s R q => h σ G er H s _ fun v G2 H2 g r => by
  obtain ⟨a, xs, rfl, r2, r3, r4⟩ := r
  refine ⟨a, rfl, ⟨xs, same_t g.gh r2⟩, q _ G2 H2 g ⟨fun i H s hi => ⟨xs, same_t s r2, by rw [r4.length]; exact hi⟩, fun i H s hi => ?_, fun i x H H' s hi y => ?_⟩⟩
  · obtain ⟨x, hx⟩ := lt_get (xs := xs) (i := i) (by rw [r4.length]; exact hi)
    exact ⟨xs, x, same_t s r2, hx⟩
  · obtain ⟨rfl, y⟩ := y
    obtain ⟨d, hd⟩ := lt_get hi
    obtain ⟨v, hv, rv⟩ := r4.get hd
    have e := y xs (same_t s r2)
    rw [hv] at e
    cases e
    exact ⟨G2, d, Grow.refl s, hd, rv⟩
/-- lo, lo + 1, .. -/
def rng (lo : Int) (n : Nat) : List Int := (List.range n).map fun (i : Nat) => lo + (i : Int)
theorem rng_len (lo : Int) (n : Nat) : (rng lo n).length = n := by unfold rng; simp
theorem rng_get {lo : Int} {n i : Nat} (h : i < n) : (rng lo n)[i]? = some (lo + (i : Int)) := by
  unfold rng
  rw [List.getElem?_map, List.getElem?_range h]; rfl
theorem itd_rng {lo : Int} {n : Nat} : ItD K (Itr lo n) G ((rng lo n).map .int) where
  stop := fun i H s hi => show n ≤ i by simpa [rng_len] using hi
  go := fun i H s hi => show i < n by simpa [rng_len] using hi
  yld := fun i x H H' s hi y => by
    obtain ⟨rfl, rfl⟩ := y
    refine ⟨G, .int (lo + (i : Int)), Grow.refl s, ?_, rfl⟩
    rw [List.getElem?_map, rng_get (by simpa [rng_len] using hi)]; rfl
theorem it_rng1 {j : Int} (h : EDA K ta ρ [.int j]) (h1 : -(2 ^ 62) ≤ j) (h2 : j < 2 ^ 62) : IT K (iRng1 ta) ρ ((rng 0 j.toNat).map .int) := fun σ G er H s R q => h σ G er H s _ fun vs G2 H2 g r => by
  obtain ⟨v, vs, rfl, e, rfl⟩ := r
  cases e
  exact ⟨j, rfl, h1, h2, q _ G2 H2 g itd_rng⟩
theorem it_rng2 {i j : Int} (h : EDA K ta ρ [.int i, .int j]) (h1 : -(2 ^ 62) ≤ i ∧ i < 2 ^ 62 ∧ -(2 ^ 62) ≤ j ∧ j < 2 ^ 62) : IT K (iRng2 ta) ρ ((rng i (j - i).toNat).map .int) := fun σ G er H s R q => h σ G er H s _ fun vs G2 H2 g r => by
  obtain ⟨v, vs, rfl, e, v', vs', rfl, e', rfl⟩ := r
  cases e; cases e'
  exact ⟨i, j, rfl, h1, q _ G2 H2 g itd_rng⟩
end

/-! ### list comprehensions -/
theorem take_fm {α β : Type} (f : α → Option β) (xs : List α) (i : Nat) (x : α) (h : xs[i]? = some x) : (xs.take (i + 1)).filterMap f = (xs.take i).filterMap f ++ (f x).toList := by
  rw [List.take_add_one, h, List.filterMap_append]
  cases hf : f x <;> simp [hf]
theorem fm_len {α β : Type} (f : α → Option β) (xs : List α) : (xs.filterMap f).length ≤ xs.length := List.length_filterMap_le f xs
section
variable {K : PySem.W.Frag} {ρ : Env} {wi : TI} {g : TG} {tt : TT} {te : TE} {vs : List Nat} {ds : List PyData}
theorem ed_lc {α : Type} {xs : List α} {f : α → PyData} {step : α → Option PyData} (hs : IT K wi ρ (xs.map f)) (hl : xs.length ≤ LIM)
    (hb : ∀ x ∈ xs, ∃ ρ' b, GD K g (wipeD ρ vs) (f x) ρ' vs ∧ ET K tt ρ' b ∧ (b = true → ∃ e, ED K te ρ' e ∧ step x = some e) ∧ (b = false → step x = none)) :
    ED K (tLc wi g tt te vs) ρ (.list (xs.filterMap step)) := fun σ G er H s Q q => hs σ G er H s _ fun J G2 H2 g2 it D hD => by
  have hG2 : G2 D = none := Same.back g2.gh hD
  refine ⟨fun i m Hi => m = xs.length - i ∧ i ≤ xs.length ∧ ∃ Gi acc, Grow G2 H2 Gi Hi ∧ Gi D = none ∧ Hi D = some (.lst acc) ∧ RpA K Gi ((xs.take i).filterMap step) acc, ⟨xs.length, rfl, Nat.zero_le _, G2, [], ?_, hG2, upd_same, rfl⟩, ?_⟩
  · exact Grow.quiet g2.gh (same_upd hD)
  rintro i m Hi ⟨rfl, hi, Gi, acc, gi, hGi, hHi, ra⟩
  by_cases hlt : i < xs.length
  · have hlt' : i < (xs.map f).length := by simpa using hlt
    refine .inr ⟨it.go i Hi (gi.gg.trans gi.gh) hlt', fun H' => ∃ Gi acc, Grow G2 H2 Gi H' ∧ Gi D = none ∧ H' D = some (.lst acc) ∧ RpA K Gi ((xs.take (i + 1)).filterMap step) acc, fun H' ⟨Gi, acc, q1, q2, q3, q4⟩ => ⟨xs.length - (i + 1), by omega, rfl, hlt, Gi, acc, q1, q2, q3, q4⟩, fun x H' y => ?_⟩
    obtain ⟨G', d, g', hd, rx⟩ := (it.mono gi.gg).yld i x Hi H' gi.gh hlt' y
    obtain ⟨x0, hx0⟩ := lt_get hlt
    have ed : d = f x0 := by
      rw [List.getElem?_map, hx0] at hd
      exact (Option.some.inj hd).symm
    subst ed
    have hne : Hi D ≠ none := by rw [hHi]; exact fun z => by cases z
    have hG' : G' D = none := g'.sep D hGi hne
    have hH' : H' D = some (.lst acc) := g'.hh _ _ hHi
    obtain ⟨ρ', b, hg, ht, h1, h0⟩ := hb x0 (List.mem_of_getElem? hx0)
    have er' : EnvR K G' (wipeD ρ vs) (L2.wipe σ vs) := (er.mono ((g2.gg.trans gi.gg).trans g'.gg)).wipe vs
    refine hg (L2.wipe σ vs) G' H' x er' g'.gh rx _ fun σ2 er2 w2 => ⟨?_, ht σ2 G' er2 H' g'.gh _ fun H3 e3 => ?_⟩
    · rw [w2]
      apply List.ext_getElem?
      intro j
      by_cases hj : j ∈ vs
      · rw [wipe_in vs j hj, wipe_in vs j hj, L2.wipe_length]
      · rw [wipe_get vs j hj]
    have gg3 : Grow G2 H2 G' H3 := (gi.trans g').trans (Grow.quiet g'.gh e3)
    cases b with
    | false =>
      refine iteF ⟨G', acc, gg3, hG', e3 _ _ hH', ?_⟩
      rw [take_fm step xs i x0 hx0, h0 rfl]
      simpa using ra.mono g'.gg
    | true =>
      obtain ⟨e, he, hse⟩ := h1 rfl
      refine iteT (he σ2 G' er2 H3 (g'.gh.trans e3) _ fun y G4 H4 g4 ry => ?_)
      have hne3 : H3 D ≠ none := by rw [e3 _ _ hH']; exact fun z => by cases z
      have hG4 : G4 D = none := g4.sep D hG' hne3
      have hD4 : H4 D = some (.lst acc) := g4.hh _ _ (e3 _ _ hH')
      have lacc : acc.length ≤ LIM := by
        rw [ra.length]
        exact Nat.le_trans (fm_len _ _) (Nat.le_trans (by rw [List.length_take]; omega) hl)
      have gg4 := gg3.trans g4
      refine ⟨acc, hD4, lim_lt lacc, G4, acc ++ [y], ⟨gg4.gg, fun a o z => ?_, fun a o z => ?_, gg4.sep⟩, hG4, upd_same, ?_⟩
      · rw [upd_ne (ne_of_none z hD)]; exact gg4.hh a o z
      · rw [upd_ne (ne_of_none z hG4)]; exact gg4.gh a o z
      · rw [take_fm step xs i x0 hx0, hse]
        exact (ra.mono (g'.gg.trans g4.gg)).snoc ry
  · have e : i = xs.length := by omega
    subst e
    refine .inl ⟨it.stop _ Hi (gi.gg.trans gi.gh) (by simp), ?_⟩
    rw [List.take_length] at ra
    have hne : ∀ a, H2 a ≠ none → a ≠ D := fun a z e => z (by rw [e]; exact hD)
    refine q _ (upd Gi D (.lst acc)) Hi ⟨(g2.gg.trans gi.gg).trans (same_upd hGi), g2.hh.trans gi.hh, fun a o z => ?_, fun a z1 z2 => ?_⟩ ⟨D, acc, rfl, upd_same, Nat.le_trans (fm_len _ _) hl, ra.mono (same_upd hGi)⟩
    · by_cases ha : a = D
      · subst ha; rw [upd_same] at z; cases z; exact hHi
      · rw [upd_ne ha] at z; exact gi.gh a o z
    · have h2 : H2 a ≠ none := by
        cases q1 : H a with
        | none => exact absurd q1 z2
        | some o => rw [g2.hh a o q1]; exact fun z => by cases z
      rw [upd_ne (hne a h2)]
      exact gi.sep a (g2.sep a z1 z2) h2
/-- [h x for x in xs] -/
theorem ed_lc_map {α : Type} {xs : List α} {f h : α → PyData} (hs : IT K wi ρ (xs.map f)) (hl : xs.length ≤ LIM) (hb : ∀ x ∈ xs, ∃ ρ', GD K g (wipeD ρ vs) (f x) ρ' vs ∧ ED K te ρ' (h x)) :
    ED K (tLc wi g tYes te vs) ρ (.list (xs.map h)) := by
  have e : xs.filterMap (fun x => some (h x)) = xs.map h := by rw [List.filterMap_eq_map']
  rw [← e]
  exact ed_lc hs hl fun x hx => by
    obtain ⟨ρ', h1, h2⟩ := hb x hx
    exact ⟨ρ', true, h1, fun σ G er H s Q q => q H (Same.refl H), fun _ => ⟨h x, h2, rfl⟩, fun z => by cases z⟩
/-- [h x for x in xs if p x] -/
theorem ed_lc_filter {α : Type} {xs : List α} {f h : α → PyData} (p : α → Bool) (hs : IT K wi ρ (xs.map f)) (hl : xs.length ≤ LIM) (hb : ∀ x ∈ xs, ∃ ρ', GD K g (wipeD ρ vs) (f x) ρ' vs ∧ ET K tt ρ' (p x) ∧ (p x = true → ED K te ρ' (h x))) :
    ED K (tLc wi g tt te vs) ρ (.list ((xs.filter p).map h)) := by
  have e : xs.filterMap (fun x => if p x = true then some (h x) else none) = (xs.filter p).map h := by
    rw [← List.filterMap_eq_map', List.filterMap_filter]
  rw [← e]
  exact ed_lc hs hl fun x hx => by
    obtain ⟨ρ', h1, h2, h3⟩ := hb x hx
    exact ⟨ρ', p x, h1, h2, fun z => ⟨h x, h3 z, by rw [if_pos z]⟩, fun z => by rw [if_neg (by rw [z]; exact Bool.false_ne_true)]⟩
end
end D2

set_option Elab.async false
set_option linter.all false
set_option maxRecDepth 100000
set_option maxHeartbeats 4000000
namespace D2
open PySem PySem.Spec PyProof.Rows L2
/-! ### statements -/
/-- what is known of a slot: nothing; its data; a list of our own that may still be changed -/
inductive Sl where
  | un | da (d : PyData) | ml (ds : List PyData)
abbrev Sls := List Sl
def Sl.dat : Sl → Option PyData
  | .da d => some d
  | _ => none
def dat (ρ : Sls) : Env := ρ.map Sl.dat
structure FrOk (K : PySem.W.Frag) (H0 G H : Hp) (ρ : Sls) (σ : L2.St) : Prop where
  env : EnvR K G (dat ρ) σ
  mls : ∀ (i : Nat) ds, ρ[i]? = some (.ml ds) → ∃ p vs, σ[i]? = some (some (.ref p)) ∧ G p = none ∧ H0 p = none ∧ H p = some (.lst vs) ∧ ds.length ≤ LIM ∧ RpA K G ds vs
  sep : ∀ (i j : Nat) ds es p, ρ[i]? = some (.ml ds) → ρ[j]? = some (.ml es) → σ[i]? = some (some (.ref p)) → σ[j]? = some (some (.ref p)) → i = j
/-- how a block ends -/
inductive Out where
  | nx (ρ : Sls) | ct (ρ : Sls) | bk (ρ : Sls) | rt (d : PyData) | ex (C : Addr)
def OutOk (K : PySem.W.Frag) (E : XK) (G0 H0 Gs : Hp) (D : Ends) : Out → Prop
  | .nx ρ => ∀ σ G H, Grow G0 H0 G H → Same Gs G → FrOk K H0 G H ρ σ → D.nx σ H
  | .ct ρ => ∀ σ G H, Grow G0 H0 G H → Same Gs G → FrOk K H0 G H ρ σ → D.ct σ H
  | .bk ρ => ∀ σ G H, Grow G0 H0 G H → Same Gs G → FrOk K H0 G H ρ σ → D.bk σ H
  | .rt d => ∀ v G H, Grow G0 H0 G H → Rp K G d v → D.rt v H
  | .ex C => ∀ H, Same H0 H → E (.ref C) none H
def SD (K : PySem.W.Frag) (E : XK) (ts : TS) (ρ : Sls) (o : Out) : Prop := ∀ (G0 H0 : Hp) (D : Ends) (σ : L2.St) (G H : Hp), Grow G0 H0 G H → FrOk K H0 G H ρ σ → OutOk K E G0 H0 G D o → ts D σ H

section
variable {K : PySem.W.Frag} {E : XK} {σ : L2.St} {G G0 G1 G2 H H0 H1 H2 : Hp} {ρ ρ1 ρ2 : Sls} {d : PyData} {ds : List PyData} {t u tb : TS} {te : TE} {tt : TT} {o : Out} {b c : Bool}
/-- behind an evaluation -/
theorem FrOk.grow (h : FrOk K H0 G H ρ σ) (g : Grow G H G2 H2) : FrOk K H0 G2 H2 ρ σ :=
  ⟨h.env.mono g.gg, fun i ds q => by
    obtain ⟨p, vs, a1, a2, a3, a4, a5, a6⟩ := h.mls i ds q
    exact ⟨p, vs, a1, g.sep p a2 (by rw [a4]; exact fun z => by cases z), a3, g.hh _ _ a4, a5, a6.mono g.gg⟩, h.sep⟩
theorem OutOk.later {D : Ends} (e : Same G G2) (q : OutOk K E G0 H0 G D o) : OutOk K E G0 H0 G2 D o := by
  cases o with
  | nx ρ => exact fun σ G' H g s f => q σ G' H g (e.trans s) f
  | ct ρ => exact fun σ G' H g s f => q σ G' H g (e.trans s) f
  | bk ρ => exact fun σ G' H g s f => q σ G' H g (e.trans s) f
  | rt d => exact q
  | ex C => exact q
theorem dat_set (ρ : Sls) (i : Nat) (s : Sl) : dat (ρ.set i s) = (dat ρ).set i s.dat := by unfold dat; rw [List.map_set]
theorem set_get {α : Type} {xs : List α} {i j : Nat} {x y : α} (h : (xs.set i x)[j]? = some y) : (i = j ∧ y = x ∧ i < xs.length) ∨ (i ≠ j ∧ xs[j]? = some y) := by
  rw [List.getElem?_set] at h
  by_cases e : i = j
  · rw [if_pos e] at h
    split at h
    · rename_i hl
      exact .inl ⟨e, (Option.some.inj h).symm, hl⟩
    · cases h
  · rw [if_neg e] at h
    exact .inr ⟨e, h⟩
theorem FrOk.len (h : FrOk K H0 G H ρ σ) : σ.length = ρ.length := by rw [h.env.len]; unfold dat; simp
theorem FrOk.set (i : Nat) {v : V} (h : FrOk K H0 G H ρ σ) (r : Rp K G d v) : FrOk K H0 G H (ρ.set i (.da d)) (σ.set i (some v)) := by
  refine ⟨by rw [dat_set]; exact h.env.set i r, fun j ds q => ?_, fun j k ds es p q1 q2 q3 q4 => ?_⟩
  · rcases set_get q with ⟨_, z, _⟩ | ⟨ne, q⟩
    · cases z
    · obtain ⟨p, vs, a1, a⟩ := h.mls j ds q
      exact ⟨p, vs, by rw [List.getElem?_set, if_neg ne]; exact a1, a⟩
  · rcases set_get q1 with ⟨_, z, _⟩ | ⟨n1, q1⟩
    · cases z
    rcases set_get q2 with ⟨_, z, _⟩ | ⟨n2, q2⟩
    · cases z
    rw [List.getElem?_set, if_neg n1] at q3
    rw [List.getElem?_set, if_neg n2] at q4
    exact h.sep j k ds es p q1 q2 q3 q4
/-- a slot forgotten -/
theorem FrOk.un (i : Nat) (x : Option V) (h : FrOk K H0 G H ρ σ) : FrOk K H0 G H (ρ.set i .un) (σ.set i x) := by
  refine ⟨by rw [dat_set]; exact h.env.unset i x, fun j ds q => ?_, fun j k ds es p q1 q2 q3 q4 => ?_⟩
  · rcases set_get q with ⟨_, z, _⟩ | ⟨ne, q⟩
    · cases z
    · obtain ⟨p, vs, a1, a⟩ := h.mls j ds q
      exact ⟨p, vs, by rw [List.getElem?_set, if_neg ne]; exact a1, a⟩
  · rcases set_get q1 with ⟨_, z, _⟩ | ⟨n1, q1⟩
    · cases z
    rcases set_get q2 with ⟨_, z, _⟩ | ⟨n2, q2⟩
    · cases z
    rw [List.getElem?_set, if_neg n1] at q3
    rw [List.getElem?_set, if_neg n2] at q4
    exact h.sep j k ds es p q1 q2 q3 q4
/-- ρ1 says no more than ρ2 -/
def Le : Sls → Sls → Prop
  | [], [] => True
  | a :: r, b :: s => (a = .un ∨ a = b) ∧ Le r s
  | _, _ => False
theorem Le.refl : ∀ ρ : Sls, Le ρ ρ
  | [] => trivial
  | _ :: r => ⟨.inr rfl, Le.refl r⟩
theorem Le.length : ∀ {a b : Sls}, Le a b → a.length = b.length
  | [], [], _ => rfl
  | _ :: _, _ :: _, h => by simp [Le.length h.2]
  | [], _ :: _, h => h.elim
  | _ :: _, [], h => h.elim
theorem Le.get : ∀ {a b : Sls} {i : Nat} {s : Sl}, Le a b → a[i]? = some s → s = .un ∨ b[i]? = some s
  | [], [], _, _, _, e => by simp at e
  | a :: r, b :: s, 0, x, h, e => by
    have : a = x := by simpa using e
    subst this
    rcases h.1 with z | z
    · exact .inl z
    · subst z; exact .inr rfl
  | a :: r, b :: s, i + 1, x, h, e => by
    have := Le.get (i := i) (s := x) h.2 (by simpa using e)
    simpa using this
  | [], _ :: _, _, _, h, _ => h.elim
  | _ :: _, [], _, _, h, _ => h.elim
theorem FrOk.weak (h : FrOk K H0 G H ρ σ) (l : Le ρ1 ρ) : FrOk K H0 G H ρ1 σ := by
  have ll := l.length
  refine ⟨⟨by rw [h.len]; unfold dat; simp [ll], fun i d q => ?_⟩, fun i ds q => ?_, fun i j ds es p q1 q2 => ?_⟩
  · unfold dat at q
    rw [List.getElem?_map] at q
    cases e : ρ1[i]? with
    | none => rw [e] at q; cases q
    | some s =>
      rw [e] at q
      cases s with
      | da d' =>
        cases q
        rcases l.get e with z | z
        · cases z
        · exact h.env.get i d (by unfold dat; rw [List.getElem?_map, z]; rfl)
      | un => cases q
      | ml _ => cases q
  · rcases l.get q with z | z
    · cases z
    · exact h.mls i ds z
  · rcases l.get q1 with z | z
    · cases z
    rcases l.get q2 with z' | z'
    · cases z'
    exact h.sep i j ds es p z z'
theorem SD.weak (h : SD K E t ρ (.nx ρ1)) (l : Le ρ2 ρ1) : SD K E t ρ (.nx ρ2) := fun G0 H0 D σ G H g f q => h G0 H0 D σ G H g f fun σ' G' H' g' s' f' => q σ' G' H' g' s' (f'.weak l)
theorem SD.pre (h : SD K E t ρ o) (l : Le ρ ρ1) : SD K E t ρ1 o := fun G0 H0 D σ G H g f q => h G0 H0 D σ G H g (f.weak l) q
theorem SD.to {o' : Out} (h : SD K E t ρ o) (e : o = o') : SD K E t ρ o' := e ▸ h

theorem sd_seq (h1 : SD K E t ρ (.nx ρ1)) (h2 : SD K E u ρ1 o) : SD K E (tSeq t u) ρ o := fun G0 H0 D σ G H g f q =>
  h1 G0 H0 { D with nx := u D } σ G H g f fun σ' G' H' g' s' f' => h2 G0 H0 D σ' G' H' g' f' (q.later s')
theorem sd_next : SD K E tNext ρ (.nx ρ) := fun G0 H0 D σ G H g f q => q σ G H g (Same.refl G) f
theorem sd_ret (h : ED K te (dat ρ) d) : SD K E (tRet te) ρ (.rt d) := fun G0 H0 D σ G H g f q => h σ G f.env H g.gh _ fun v G2 H2 g2 r => q v G2 H2 (g.trans g2) r
theorem sd_retN : SD K E tRetN ρ (.rt .none) := fun G0 H0 D σ G H g f q => q _ G H g rfl
theorem sd_ret_seq (h : ED K te (dat ρ) d) : SD K E (tSeq (tRet te) u) ρ (.rt d) := fun G0 H0 D σ G H g f q => h σ G f.env H g.gh _ fun v G2 H2 g2 r => q v G2 H2 (g.trans g2) r
theorem sd_drop (h : ED K te (dat ρ) d) : SD K E (tDrop te) ρ (.nx ρ) := fun G0 H0 D σ G H g f q => h σ G f.env H g.gh _ fun v G2 H2 g2 r => q σ G2 H2 (g.trans g2) g2.gg (f.grow g2)
theorem sd_break : SD K E tBreak ρ (.bk ρ) := fun G0 H0 D σ G H g f q => q σ G H g (Same.refl G) f
theorem sd_cont : SD K E tCont ρ (.ct ρ) := fun G0 H0 D σ G H g f q => q σ G H g (Same.refl G) f
/-- x = e -/
theorem sd_set {i : Nat} (h : ED K te (dat ρ) d) : SD K E (tAsg te (gName i)) ρ (.nx (ρ.set i (.da d))) := fun G0 H0 D σ G H g f q =>
  h σ G f.env H g.gh _ fun v G2 H2 g2 r => q _ G2 H2 (g.trans g2) g2.gg ((f.grow g2).set i r)
theorem sd_par {i j : Nat} {ta : TA} {d e : PyData} (h : EDA K ta (dat ρ) [d, e]) : SD K E (tPar i j ta) ρ (.nx ((ρ.set i (.da d)).set j (.da e))) := fun G0 H0 D σ G H g f q =>
  h σ G f.env H g.gh _ fun vs G2 H2 g2 r => by
    obtain ⟨v, vs, rfl, r1, w, ws, rfl, r2, rfl⟩ := r
    exact ⟨v, w, rfl, q _ G2 H2 (g.trans g2) g2.gg (((f.grow g2).set i r1).set j r2)⟩
theorem sd_if (hc : ET K tt (dat ρ) b) (h1 : b = true → SD K E t ρ o) (h2 : b = false → SD K E u ρ o) : SD K E (tIfS tt t u) ρ o := fun G0 H0 D σ G H g f q =>
  hc σ G f.env H g.gh _ fun H2 e => by
    have g2 := Grow.quiet g.gh e
    cases b with
    | true => exact iteT (h1 rfl G0 H0 D σ G H2 (g.trans g2) (f.grow g2) q)
    | false => exact iteF (h2 rfl G0 H0 D σ G H2 (g.trans g2) (f.grow g2) q)
/-- an if, and what stands behind it, way by way -/
theorem sd_ifs {v : TS} (hc : ET K tt (dat ρ) b) (h1 : b = true → SD K E (tSeq t v) ρ o) (h2 : b = false → SD K E (tSeq u v) ρ o) : SD K E (tSeq (tIfS tt t u) v) ρ o := fun G0 H0 D σ G H g f q =>
  hc σ G f.env H g.gh _ fun H2 e => by
    have g2 := Grow.quiet g.gh e
    cases b with
    | true => exact iteT (h1 rfl G0 H0 D σ G H2 (g.trans g2) (f.grow g2) q)
    | false => exact iteF (h2 rfl G0 H0 D σ G H2 (g.trans g2) (f.grow g2) q)
theorem sd_nexts (h : SD K E u ρ o) : SD K E (tSeq tNext u) ρ o := fun G0 H0 D σ G H g f q => h G0 H0 D σ G H g f q
/-- targets of statements: any slots -/
def GS (K : PySem.W.Frag) (g : TG) (ρ : Sls) (d : PyData) (ρ' : Sls) : Prop := ∀ (H0 G H : Hp) (σ : L2.St) (v : V), FrOk K H0 G H ρ σ → Same G H → Rp K G d v → ∀ Q : L2.St → Hp → Prop, (∀ σ', FrOk K H0 G H ρ' σ' → Q σ' H) → g v σ H Q
def GSs (K : PySem.W.Frag) (g : TGs) (ρ : Sls) (ds : List PyData) (ρ' : Sls) : Prop := ∀ (H0 G H : Hp) (σ : L2.St) (us : List V), FrOk K H0 G H ρ σ → Same G H → RpA K G ds us → ∀ Q : L2.St → Hp → Prop, (∀ σ', FrOk K H0 G H ρ' σ' → Q σ' H) → g us σ H Q
theorem gs_name {i : Nat} : GS K (gName i) ρ d (ρ.set i (.da d)) := fun H0 G H σ v f s r Q q => q _ (f.set i r)
theorem gs_nil : GSs K gNil ρ [] ρ := fun H0 G H σ us f s r Q q => ⟨r, q σ f⟩
theorem gs_cons {t : TG} {u : TGs} (h1 : GS K t ρ d ρ1) (h2 : GSs K u ρ1 ds ρ2) : GSs K (gCons t u) ρ (d :: ds) ρ2 := fun H0 G H σ us f s r Q q => by
  obtain ⟨v, us, rfl, r1, r2⟩ := r
  exact ⟨v, us, rfl, h1 H0 G H σ v f s r1 _ fun σ1 f1 => h2 H0 G H σ1 us f1 s r2 Q q⟩
theorem gs_tup {n : Nat} {t : TGs} (h : GSs K t ρ ds ρ1) (hn : ds.length = n) : GS K (gTup K n t) ρ (.tuple ds) ρ1 := fun H0 G H σ v f s r Q q => by
  obtain ⟨a, xs, rfl, r2, r3, r4⟩ := r
  exact ⟨a, xs, rfl, same_t s r2, r4.length.trans hn, h H0 G H σ xs f s r4 Q q⟩
theorem sd_asg {g : TG} (h : ED K te (dat ρ) d) (hg : GS K g ρ d ρ1) : SD K E (tAsg te g) ρ (.nx ρ1) := fun G0 H0 D σ G H gr f q =>
  h σ G f.env H gr.gh _ fun v G2 H2 g2 r => hg H0 G2 H2 σ v (f.grow g2) g2.gh r _ fun σ' f' => q σ' G2 H2 (gr.trans g2) g2.gg f'
/-- x op= e -/
theorem sd_aug {i : Nat} {ti : TIp} {x y z : PyData} (hx : (dat ρ)[i]? = some (some x)) (h : ED K te (dat ρ) y) (ho : RV K ti x y z) : SD K E (tAug i te ti) ρ (.nx (ρ.set i (.da z))) := fun G0 H0 D σ G H g f q => by
  obtain ⟨vx, e, r⟩ := f.env.get i x hx
  exact ⟨vx, e, h σ G f.env H g.gh _ fun vy G2 H2 g2 r2 => ho G2 H2 vx vy g2.gh (r.mono g2.gg) r2 _ fun v G3 H3 g3 r3 => q _ G3 H3 ((g.trans g2).trans g3) (g2.gg.trans g3.gg) (((f.grow g2).grow g3).set i r3)⟩

/-! ### lists of our own -/
/-- x = [] (or a list display) -/
theorem sd_new {i : Nat} {ta : TA} (h : EDA K ta (dat ρ) ds) (hi : i < ρ.length) (hl : ds.length ≤ LIM := by first | decide | (simp only [List.length_cons, List.length_nil, List.length_map]; decide)) : SD K E (tAsg (tLst ta) (gName i)) ρ (.nx (ρ.set i (.ml ds))) := fun G0 H0 D σ G H g f q =>
  h σ G f.env H g.gh _ fun vs G2 H2 g2 r => ⟨by rw [r.length]; exact lim_le hl, fun p hp => by
    have f2 := f.grow g2
    have gp : G2 p = none := Same.back g2.gh hp
    have h0p : H0 p = none := Same.back (g.trans g2).hh hp
    have g3 : Grow G2 H2 G2 (upd H2 p (.lst vs)) := Grow.quiet g2.gh (same_upd hp)
    refine q _ G2 _ ((g.trans g2).trans g3) g2.gg ?_
    have f3 := f2.grow g3
    have hσ : i < σ.length := by rw [f.len]; exact hi
    refine ⟨by rw [dat_set]; exact f3.env.unset i _, fun j es z => ?_, fun j k es fs p' z1 z2 z3 z4 => ?_⟩
    · rcases set_get z with ⟨e, zz, _⟩ | ⟨ne, z⟩
      · subst e; cases zz
        exact ⟨p, vs, by rw [List.getElem?_set, if_pos rfl, if_pos hσ], gp, h0p, upd_same, hl, r⟩
      · obtain ⟨p', vs', a1, a⟩ := f3.mls j es z
        exact ⟨p', vs', by rw [List.getElem?_set, if_neg ne]; exact a1, a⟩
    · have old : ∀ (m : Nat) (es : List PyData) (p' : Addr), ρ[m]? = some (Sl.ml es) → σ[m]? = some (some (V.ref p')) → p' ≠ p := fun m es p' y1 y2 e => by
        obtain ⟨p2, vs2, a1, a2, a3, a4, _⟩ := f2.mls m es y1
        rw [a1] at y2
        cases y2
        rw [e, hp] at a4; cases a4
      rcases set_get z1 with ⟨e1, z1, _⟩ | ⟨n1, z1⟩
      · subst e1
        rcases set_get z2 with ⟨e2, _, _⟩ | ⟨n2, z2⟩
        · exact e2
        · rw [List.getElem?_set, if_pos rfl, if_pos hσ] at z3
          rw [List.getElem?_set, if_neg n2] at z4
          cases z3
          exact absurd rfl (old k fs p z2 z4)
      · rw [List.getElem?_set, if_neg n1] at z3
        rcases set_get z2 with ⟨e2, _, _⟩ | ⟨n2, z2⟩
        · subst e2
          rw [List.getElem?_set, if_pos rfl, if_pos hσ] at z4
          cases z4
          exact absurd rfl (old j es p z1 z3)
        · rw [List.getElem?_set, if_neg n2] at z4
          exact f3.sep j k es fs p' z1 z2 z3 z4⟩
/-- its items are from now on as they are -/
theorem sd_freeze (i : Nat) (hx : ρ[i]? = some (.ml ds)) (h : SD K E t (ρ.set i (.da (.list ds))) o) : SD K E t ρ o := fun G0 H0 D σ G H g f q => by
  obtain ⟨p, vs, a1, a2, a3, a4, a5, a6⟩ := f.mls i ds hx
  have ne : ∀ b, H0 b ≠ none → b ≠ p := fun b z e => z (by rw [e]; exact a3)
  have s1 : Same G (upd G p (.lst vs)) := same_upd a2
  have s2 : Same (upd G p (.lst vs)) H := fun a o z => by
    by_cases e : a = p
    · subst e; rw [upd_same] at z; cases z; exact a4
    · rw [upd_ne e] at z; exact g.gh a o z
  have g2 : Grow G0 H0 (upd G p (.lst vs)) H := ⟨g.gg.trans s1, g.hh, s2, fun a z1 z2 => by rw [upd_ne (ne a z2)]; exact g.sep a z1 z2⟩
  refine h G0 H0 D σ _ H g2 ?_ (q.later s1)
  have hi : i < ρ.length := (List.getElem?_eq_some_iff.mp hx).1
  have hself : σ.set i (some (.ref p)) = σ := by
    apply List.ext_getElem?
    intro j
    rw [List.getElem?_set]
    split
    · rename_i e; subst e; rw [if_pos (by rw [f.len]; exact hi), a1]
    · rfl
  refine ⟨?_, fun j es z => ?_, fun j k es fs p' z1 z2 z3 z4 => ?_⟩
  · rw [dat_set, ← hself]
    exact (f.env.mono s1).set i ⟨p, vs, rfl, upd_same, a5, a6.mono s1⟩
  · rcases set_get z with ⟨_, z, _⟩ | ⟨n, z⟩
    · cases z
    · obtain ⟨p', vs', b1, b2, b3, b4, b5, b6⟩ := f.mls j es z
      have np : p' ≠ p := fun e => n (f.sep i j ds es p hx z a1 (by rw [← e]; exact b1))
      exact ⟨p', vs', b1, by rw [upd_ne np]; exact b2, b3, b4, b5, b6.mono s1⟩
  · rcases set_get z1 with ⟨_, z, _⟩ | ⟨n1, z1⟩
    · cases z
    rcases set_get z2 with ⟨_, z, _⟩ | ⟨n2, z2⟩
    · cases z
    exact f.sep j k es fs p' z1 z2 z3 z4
/-- x.append(e) -/
theorem sd_append {i : Nat} (hx : ρ[i]? = some (.ml ds)) (h : ED K te (dat ρ) d) (hl : ds.length + 1 ≤ LIM) :
    SD K E (tDrop (tBM K "list" rAppend (tVar i) (tCons te tNil))) ρ (.nx (ρ.set i (.ml (ds ++ [d])))) := fun G0 H0 D σ G H g f q => by
  obtain ⟨p, vs, a1, a2, a3, a4, a5, a6⟩ := f.mls i ds hx
  refine ⟨.ref p, a1, .inl ⟨rfl, _, SqL.of a4⟩, ?_⟩
  refine h σ G f.env H g.gh _ fun v G2 H2 g2 r => ?_
  have e4 : H2 p = some (.lst vs) := g2.hh _ _ a4
  have gp : G2 p = none := g2.sep p a2 (by rw [a4]; exact fun z => by cases z)
  refine ⟨p, vs, v, rfl, rfl, e4, ?_, ?_⟩
  · rw [a6.length]; exact lim_lt (by omega)
  have f2 := f.grow g2
  have g3 := g.trans g2
  have hi : i < ρ.length := (List.getElem?_eq_some_iff.mp hx).1
  refine q σ G2 _ ⟨g3.gg, fun a o z => ?_, fun a o z => ?_, g3.sep⟩ g2.gg ⟨?_, fun j es z => ?_, fun j k es fs p' z1 z2 z3 z4 => ?_⟩
  · rw [upd_ne (ne_of_none z a3)]; exact g3.hh a o z
  · rw [upd_ne (ne_of_none z gp)]; exact g3.gh a o z
  · have hself : σ.set i (some (.ref p)) = σ := by
      apply List.ext_getElem?
      intro j
      rw [List.getElem?_set]
      split
      · rename_i e; subst e; rw [if_pos (by rw [f.len]; exact hi), a1]
      · rfl
    rw [dat_set, ← hself]
    exact f2.env.unset i _
  · rcases set_get z with ⟨e, zz, _⟩ | ⟨n, z⟩
    · subst e; cases zz
      exact ⟨p, vs ++ [v], a1, gp, a3, upd_same, by rw [List.length_append]; simpa using hl, (a6.mono g2.gg).snoc r⟩
    · obtain ⟨p', vs', b1, b2, b3, b4, b5, b6⟩ := f2.mls j es z
      have np : p' ≠ p := fun e => n (f.sep i j ds es p hx z a1 (by rw [← e]; exact b1))
      exact ⟨p', vs', b1, b2, b3, by rw [upd_ne np]; exact b4, b5, b6⟩
  · have pre : ∀ (m : Nat) (es : List PyData), (ρ.set i (Sl.ml (ds ++ [d])))[m]? = some (Sl.ml es) → ∃ es', ρ[m]? = some (Sl.ml es') := fun m es y => by
      rcases set_get y with ⟨e, _, _⟩ | ⟨_, y⟩
      · subst e; exact ⟨ds, hx⟩
      · exact ⟨es, y⟩
    obtain ⟨es1, y1⟩ := pre j es z1
    obtain ⟨es2, y2⟩ := pre k fs z2
    exact f.sep j k es1 es2 p' y1 y2 z3 z4

/-! ### loops -/
/-- a for whose turns go on: S the slots by what is carried -/
theorem sd_for {α β : Type} {wi : TI} {g : TG} {xs : List α} {f : α → PyData} {S : β → Sls} {step : β → α → β} {b0 : β} (hi : IT K wi (dat ρ) (xs.map f)) (l0 : Le (S b0) ρ)
    (hb : ∀ (pre post : List α) (x : α), xs = pre ++ x :: post → ∃ ρ', GS K g (S (pre.foldl step b0)) (f x) ρ' ∧ (SD K E tb ρ' (.nx (S (step (pre.foldl step b0) x))) ∨ SD K E tb ρ' (.ct (S (step (pre.foldl step b0) x))))) :
    SD K E (tFor wi g tb) ρ (.nx (S (xs.foldl step b0))) := fun G0 H0 D σ G H gr fr q => hi σ G fr.env H gr.gh _ fun J G2 H2 g2 it => by
  refine ⟨fun i m σ' H' => m = xs.length - i ∧ i ≤ xs.length ∧ ∃ G', Grow G0 H0 G' H' ∧ Same G2 G' ∧ FrOk K H0 G' H' (S ((xs.take i).foldl step b0)) σ', ⟨xs.length, rfl, Nat.zero_le _, G2, gr.trans g2, Same.refl _, (fr.grow g2).weak l0⟩, ?_⟩
  rintro i m σ' H' ⟨rfl, hi', G', gr', s', fr'⟩
  by_cases hlt : i < xs.length
  · have hlt' : i < (xs.map f).length := by simpa using hlt
    refine .inr ⟨it.go i H' (s'.trans gr'.gh) hlt', fun σ' H' => ∃ G', Grow G0 H0 G' H' ∧ Same G2 G' ∧ FrOk K H0 G' H' (S ((xs.take (i + 1)).foldl step b0)) σ', fun σ' H' ⟨G', a, b, c⟩ => ⟨xs.length - (i + 1), by omega, rfl, hlt, G', a, b, c⟩, fun x H3 y => ?_⟩
    obtain ⟨G3, d, g3, hd, rx⟩ := (it.mono s').yld i x H' H3 gr'.gh hlt' y
    obtain ⟨x0, hx0⟩ := lt_get hlt
    have ed : d = f x0 := by
      rw [List.getElem?_map, hx0] at hd
      exact (Option.some.inj hd).symm
    subst ed
    have ex : xs = xs.take i ++ x0 :: xs.drop (i + 1) := by
      have := List.getElem?_eq_some_iff.mp hx0
      obtain ⟨h1, h2⟩ := this
      rw [← h2, List.getElem_cons_drop, List.take_append_drop]
    obtain ⟨ρ', hg, hs⟩ := hb _ _ x0 ex
    have et : (xs.take (i + 1)).foldl step b0 = step ((xs.take i).foldl step b0) x0 := by rw [List.take_add_one, hx0, List.foldl_append]; rfl
    refine hg H0 G3 H3 σ' x (fr'.grow g3) g3.gh rx _ fun σ2 fr2 => ?_
    rw [et]
    -- the turn, relative to what stood at its start: the list that is walked stays known
    rcases hs with hs | hs
    · exact hs G0 H0 _ σ2 G3 H3 (gr'.trans g3) fr2 fun σ4 G4 H4 g4 s4 f4 => ⟨G4, g4, (s'.trans g3.gg).trans s4, f4⟩
    · exact hs G0 H0 _ σ2 G3 H3 (gr'.trans g3) fr2 fun σ4 G4 H4 g4 s4 f4 => ⟨G4, g4, (s'.trans g3.gg).trans s4, f4⟩
  · have e : i = xs.length := by omega
    subst e
    rw [List.take_length] at fr'
    exact .inl ⟨it.stop _ H' (s'.trans gr'.gh) (by simp), q σ' G' H' gr' (g2.gg.trans s') fr'⟩
end
end D2

set_option Elab.async false
set_option linter.all false
set_option maxRecDepth 100000
set_option maxHeartbeats 4000000
namespace D2
open PySem PySem.Spec PyProof.Rows L2
section
variable {K : PySem.W.Frag} {E : XK} {σ : L2.St} {G G0 G1 G2 H H0 H1 H2 : Hp} {ρ ρ1 ρ2 : Sls} {d : PyData} {ds : List PyData} {t u tb v : TS} {te : TE} {tt : TT} {o : Out} {b c : Bool}
/-- a for whose turns may leave the def: a turn goes on with a state, or hands back data -/
theorem sd_forE {α β : Type} {wi : TI} {g : TG} {xs : List α} {f : α → PyData} {S : β → Sls} {step : β → α → Except PyData β} {b0 : β} (hi : IT K wi (dat ρ) (xs.map f)) (l0 : Le (S b0) ρ)
    (hb : ∀ (pre post : List α) (x : α) (s : β), xs = pre ++ x :: post → pre.foldlM step b0 = .ok s → ∃ ρ', GS K g (S s) (f x) ρ' ∧ match step s x with | .ok s' => (SD K E tb ρ' (.nx (S s')) ∨ SD K E tb ρ' (.ct (S s'))) | .error d => SD K E tb ρ' (.rt d))
    (he : ∀ d, xs.foldlM step b0 = .error d → o = .rt d) (hn : ∀ s, xs.foldlM step b0 = .ok s → SD K E v (S s) o) : SD K E (tSeq (tFor wi g tb) v) ρ o := fun G0 H0 D σ G H gr fr q => hi σ G fr.env H gr.gh _ fun J G2 H2 g2 it => by
  refine ⟨fun i m σ' H' => m = xs.length - i ∧ i ≤ xs.length ∧ ∃ s G', (xs.take i).foldlM step b0 = .ok s ∧ Grow G0 H0 G' H' ∧ Same G2 G' ∧ FrOk K H0 G' H' (S s) σ', ⟨xs.length, rfl, Nat.zero_le _, b0, G2, rfl, gr.trans g2, Same.refl _, (fr.grow g2).weak l0⟩, ?_⟩
  rintro i m σ' H' ⟨rfl, hi', s, G', es, gr', s', fr'⟩
  by_cases hlt : i < xs.length
  · have hlt' : i < (xs.map f).length := by simpa using hlt
    refine .inr ⟨it.go i H' (s'.trans gr'.gh) hlt', fun σ' H' => ∃ s G', (xs.take (i + 1)).foldlM step b0 = .ok s ∧ Grow G0 H0 G' H' ∧ Same G2 G' ∧ FrOk K H0 G' H' (S s) σ', fun σ' H' ⟨s, G', a, b, c⟩ => ⟨xs.length - (i + 1), by omega, rfl, hlt, s, G', a, b, c⟩, fun x H3 y => ?_⟩
    obtain ⟨G3, d, g3, hd, rx⟩ := (it.mono s').yld i x H' H3 gr'.gh hlt' y
    obtain ⟨x0, hx0⟩ := lt_get hlt
    have ed : d = f x0 := by
      rw [List.getElem?_map, hx0] at hd
      exact (Option.some.inj hd).symm
    subst ed
    have ex : xs = xs.take i ++ x0 :: xs.drop (i + 1) := by
      have := List.getElem?_eq_some_iff.mp hx0
      obtain ⟨h1, h2⟩ := this
      rw [← h2, List.getElem_cons_drop, List.take_append_drop]
    have et : (xs.take (i + 1)).foldlM step b0 = step s x0 := by
      rw [List.take_add_one, hx0, List.foldlM_append, es]
      show (List.foldlM step s [x0]) = step s x0
      rw [List.foldlM_cons]
      cases step s x0 <;> rfl
    obtain ⟨ρ', hg, hs⟩ := hb _ _ x0 s ex es
    refine hg H0 G3 H3 σ' x (fr'.grow g3) g3.gh rx _ fun σ2 fr2 => ?_
    rw [et]
    cases hst : step s x0 with
    | ok s2 =>
      rw [hst] at hs
      rcases hs with hs | hs
      · exact hs G0 H0 _ σ2 G3 H3 (gr'.trans g3) fr2 fun σ4 G4 H4 g4 s4 f4 => ⟨s2, G4, rfl, g4, (s'.trans g3.gg).trans s4, f4⟩
      · exact hs G0 H0 _ σ2 G3 H3 (gr'.trans g3) fr2 fun σ4 G4 H4 g4 s4 f4 => ⟨s2, G4, rfl, g4, (s'.trans g3.gg).trans s4, f4⟩
    | error d =>
      rw [hst] at hs
      have ef : xs.foldlM step b0 = .error d := by
        conv => lhs; rw [ex]
        rw [List.foldlM_append, es]
        show (List.foldlM step s (x0 :: xs.drop (i + 1))) = _
        rw [List.foldlM_cons, hst]; rfl
      have q' := q
      rw [he d ef] at q'
      exact hs G0 H0 _ σ2 G3 H3 (gr'.trans g3) fr2 q'
  · have e : i = xs.length := by omega
    subst e
    rw [List.take_length] at es
    exact .inl ⟨it.stop _ H' (s'.trans gr'.gh) (by simp), hn s es G0 H0 D σ' G' H' gr' fr' (q.later (g2.gg.trans s'))⟩

/-- a while: P holds ahead of each test, μ falls -/
theorem sd_while {β : Type} {S : β → Sls} {P : β → Prop} {μ : β → Nat} {cnd : β → Bool} {step : β → β} {b0 : β} (h0 : P b0) (l0 : Le (S b0) ρ) (hc : ∀ b, P b → ET K tt (dat (S b)) (cnd b))
    (hb : ∀ b, P b → cnd b = true → SD K E tb (S b) (.nx (S (step b))) ∧ P (step b) ∧ μ (step b) < μ b) (hn : ∀ b, P b → cnd b = false → SD K E v (S b) o) : SD K E (tSeq (tWhile tt tb) v) ρ o := fun G0 H0 D σ G H gr fr q => by
  refine ⟨fun m σ' H' => ∃ b G', m = μ b ∧ P b ∧ Grow G0 H0 G' H' ∧ Same G G' ∧ FrOk K H0 G' H' (S b) σ', ⟨_, b0, G, rfl, h0, gr, Same.refl G, fr.weak l0⟩, ?_⟩
  rintro m σ' H' ⟨b, G', rfl, p, gr', s', fr'⟩
  refine hc b p σ' G' fr'.env H' gr'.gh _ fun H3 e3 => ?_
  have g3 := gr'.trans (Grow.quiet gr'.gh e3)
  have f3 := fr'.grow (Grow.quiet gr'.gh e3)
  cases hcb : cnd b with
  | false => exact iteF (hn b p hcb G0 H0 D σ' G' H3 g3 f3 (q.later s'))
  | true =>
    obtain ⟨hs, p', l⟩ := hb b p hcb
    refine iteT ⟨fun σ4 H4 => ∃ G4, Grow G0 H0 G4 H4 ∧ Same G' G4 ∧ FrOk K H0 G4 H4 (S (step b)) σ4, fun σ4 H4 ⟨G4, a, b', c⟩ => ⟨_, l, step b, G4, rfl, p', a, s'.trans b', c⟩, ?_⟩
    exact hs G0 H0 _ σ' G' H3 g3 f3 fun σ4 G4 H4 g4 s4 f4 => ⟨G4, g4, s4, f4⟩
end

/-! ### defs -/
inductive Res where
  | val (d : PyData) | exc (C : Addr)
/-- the promise of a def over data: R tells arguments and answer -/
def spD (K : PySem.W.Frag) (R : List PyData → Res → Prop) : Sp := fun vs H Q E => ∃ G ds r, Same G H ∧ RpA K G ds vs ∧ R ds r ∧
  match r with
  | .val d => ∀ v G2 H2, Grow G H G2 H2 → Rp K G2 d v → Q v H2
  | .exc C => ∀ H2, Same H H2 → E (.ref C) none H2
theorem ed_call {K : PySem.W.Frag} {R : List PyData → Res → Prop} {E : XK} {t : TA} {ρ : Env} {ds : List PyData} {d : PyData} (ha : EDA K t ρ ds) (hr : R ds (.val d)) : ED K (tCall (spD K R) [] E t) ρ d := fun σ G er H s Q q =>
  ha σ G er H s _ fun vs G2 H2 g2 r => ⟨G2, ds, .val d, g2.gh, by rw [List.append_nil]; exact r, hr, fun v G3 H3 g3 r3 => q v G3 H3 (g2.trans g3) r3⟩
/-- an expression that raises -/
def EX (K : PySem.W.Frag) (E : XK) (te : TE) (ρ : Env) (C : Addr) : Prop := ∀ σ G, EnvR K G ρ σ → ∀ H, Same G H → ∀ Q : VK, (∀ H2, Same H H2 → E (.ref C) none H2) → te σ H Q
theorem ex_call {K : PySem.W.Frag} {R : List PyData → Res → Prop} {E : XK} {t : TA} {ρ : Env} {ds : List PyData} {C : Addr} (ha : EDA K t ρ ds) (hr : R ds (.exc C)) : EX K E (tCall (spD K R) [] E t) ρ C := fun σ G er H s Q q =>
  ha σ G er H s _ fun vs G2 H2 g2 r => ⟨G2, ds, .exc C, g2.gh, by rw [List.append_nil]; exact r, hr, fun H3 e3 => q H3 (g2.hh.trans e3)⟩
section
variable {K : PySem.W.Frag} {E : XK} {ρ : Sls} {te : TE} {C : Addr} {u : TS}
theorem sd_dropX (h : EX K E te (dat ρ) C) : SD K E (tDrop te) ρ (.ex C) := fun G0 H0 D σ G H g f q => h σ G f.env H g.gh _ fun H2 e => q H2 (g.hh.trans e)
theorem sd_dropX_seq (h : EX K E te (dat ρ) C) : SD K E (tSeq (tDrop te) u) ρ (.ex C) := fun G0 H0 D σ G H g f q => h σ G f.env H g.gh _ fun H2 e => q H2 (g.hh.trans e)
theorem sd_asgX_seq {g : TG} (h : EX K E te (dat ρ) C) : SD K E (tSeq (tAsg te g) u) ρ (.ex C) := fun G0 H0 D σ G H gr f q => h σ G f.env H gr.gh _ fun H2 e => q H2 (gr.hh.trans e)
theorem sd_retX (h : EX K E te (dat ρ) C) : SD K E (tRet te) ρ (.ex C) := fun G0 H0 D σ G H g f q => h σ G f.env H g.gh _ fun H2 e => q H2 (g.hh.trans e)
end
def startS (ds : List PyData) (n : Nat) : Sls := ds.map .da ++ List.replicate (n - ds.length) .un
theorem start_env {K : PySem.W.Frag} {G : Hp} {N : List Str} : ∀ {ds : List PyData} {vs : List V}, RpA K G ds vs → ds.length ≤ N.length → EnvR K G (dat (startS ds N.length)) (L2.start N vs) := fun {ds vs} r hl => by
  have rl := r.length
  refine ⟨by unfold dat startS L2.start; simp [rl], fun i d q => ?_⟩
  unfold dat startS at q
  rw [List.getElem?_map] at q
  by_cases hi : i < ds.length
  · rw [List.getElem?_append_left (by simpa using hi), List.getElem?_map] at q
    cases e : ds[i]? with
    | none => rw [e] at q; cases q
    | some x =>
      rw [e] at q
      have : x = d := by simpa [Sl.dat] using q
      subst this
      obtain ⟨v, hv, rv⟩ := r.get e
      refine ⟨v, ?_, rv⟩
      unfold L2.start
      rw [List.getElem?_append_left (by simpa [rl] using hi), List.getElem?_map, hv]; rfl
  · rw [List.getElem?_append_right (by simpa using Nat.le_of_not_lt hi), List.getElem?_replicate] at q
    split at q <;> cases q
theorem start_ok {K : PySem.W.Frag} {G H0 H : Hp} {N : List Str} {ds : List PyData} {vs : List V} (r : RpA K G ds vs) (hl : ds.length ≤ N.length) : FrOk K H0 G H (startS ds N.length) (L2.start N vs) := by
  have no : ∀ (i : Nat) (es : List PyData), (startS ds N.length)[i]? ≠ some (Sl.ml es) := fun i es q => by
    unfold startS at q
    by_cases hi : i < ds.length
    · rw [List.getElem?_append_left (by simpa using hi), List.getElem?_map] at q
      cases e : ds[i]? with
      | none => rw [e] at q; cases q
      | some x => rw [e] at q; cases q
    · rw [List.getElem?_append_right (by simpa using Nat.le_of_not_lt hi), List.getElem?_replicate] at q
      split at q <;> cases q
  exact ⟨start_env r hl, fun i es q => absurd q (no i es), fun i j es fs p q => absurd q (no i es)⟩
def resO : Res → Out
  | .val d => .rt d
  | .exc C => .ex C
/-- a def as callers see it -/
structure DefOk (P : Program) (w : World) (K : PySem.W.Frag) (mg : Str → Option Value) (base : Heap) (x : Str) (ps : List Str) (k : Nat) (R : List PyData → Res → Prop) : Prop where
  ex : ∃ f fd, FnOk P w K mg base (L2.CX P w) k f fd ps (spD K R) ∧ Binds K fd ps [] ∧ mg x = some (.ref f) ∧ PySem.W.keepIn K (.ref f) = true
/-- a def of the text, as the top leaves it -/
structure DefAt (K : PySem.W.Frag) (mg : Str → Option Value) (x : Str) (st : Stmt) (ps : List Str) : Prop where
  ex : ∃ f fd, Fun K x x st f fd ∧ Binds K fd ps [] ∧ mg x = some (.ref f)
section
variable {P : Program} {w : World} {K : PySem.W.Frag} {mg : Str → Option Value} {base : Heap}
/-- THE RULE for a def over data; the body falls through to None where o is nx -/
theorem okF {x : Str} {st : Stmt} {N ps : List Str} {k : Nat} {R : List PyData → Res → Prop} {f : Addr} {fd : FuncData} (F : Fun K x x st f fd) (S : FnScope N ps (defScope st)) (hps : ps.length ≤ N.length) (len : ∀ ds r, R ds r → ds.length = ps.length)
    (hbody : ∀ (f : Addr) (cdv : Value) (Ar : Around) (outer : List PySem.Env) (s : Shared) (H : Hp) (E : XK), Room k (Ar.deeper (envOfC x (defScope st) s.heap.objs.size f cdv)) →
      ∃ t, PSs (cxOf (L2.CX P w) P w K mg base N x (defScope st) f cdv Ar outer s H E) (defBody st) t ∧ ∀ ds r, R ds r → (SD K E t (startS ds N.length) (resO r) ∨ (r = .val .none ∧ ∃ ρ, SD K E t (startS ds N.length) (.nx ρ)))) :
    FnOk P w K mg base (L2.CX P w) (k + 1) f fd ps (spD K R) := by
  refine F.okX S (fun vs H Q E ⟨G, ds, r, s, ra, hr, _⟩ => ra.length.trans (len ds r hr)) (fun cdv Ar outer s H vs Q E hrm ⟨G, ds, r, sg, ra, hR, q⟩ => ?_)
  obtain ⟨t, h1, h2⟩ := hbody f cdv Ar outer s H E hrm
  have hl : ds.length ≤ N.length := by rw [len ds r hR]; exact hps
  refine ⟨t, h1, ?_⟩
  rcases h2 ds r hR with h2 | ⟨rfl, ρ, h2⟩
  · refine h2 G H _ (L2.start N vs) G H (Grow.refl sg) (start_ok ra hl) ?_
    cases r with
    | val d => exact fun v G2 H2 g r => q v G2 H2 g r
    | exc C => exact fun H2 e => q H2 e
  · exact h2 G H _ (L2.start N vs) G H (Grow.refl sg) (start_ok ra hl) fun σ G2 H2 g _ _ => q _ G2 H2 g rfl
theorem DefAt.ok {x : Str} {st : Stmt} {N ps : List Str} {k : Nat} {R : List PyData → Res → Prop} (A : DefAt K mg x st ps) (S : FnScope N ps (defScope st)) (hps : ps.length ≤ N.length) (len : ∀ ds r, R ds r → ds.length = ps.length)
    (hbody : ∀ (f : Addr) (cdv : Value) (Ar : Around) (outer : List PySem.Env) (s : Shared) (H : Hp) (E : XK), Room k (Ar.deeper (envOfC x (defScope st) s.heap.objs.size f cdv)) →
      ∃ t, PSs (cxOf (L2.CX P w) P w K mg base N x (defScope st) f cdv Ar outer s H E) (defBody st) t ∧ ∀ ds r, R ds r → (SD K E t (startS ds N.length) (resO r) ∨ (r = .val .none ∧ ∃ ρ, SD K E t (startS ds N.length) (.nx ρ)))) :
    DefOk P w K mg base x ps (k + 1) R := by
  obtain ⟨f, fd, F, B, M⟩ := A.ex
  exact ⟨f, fd, okF F S hps len hbody, B, M, F.kp⟩
/-- from the head's facts -/
theorem at_mk {x : Str} {st : Stmt} {ps : List Str} {h : Heap} {f : Addr} {oc : Value} {od an : Option Addr} {osl : Array (Option Value)} {kV doc pm cdv ct : Value} (X : K.In h) (G : h.Ns mainGlobals mg)
    (hb : ∀ (kV doc pm : Value) (an : Option Addr) (cdv ct : Value) (us : List Value), us.length = ps.length → bindArgs (PySem.W.fnOf x x (defArgs st) (defBody st) (defScope st) .none kV doc pm an cdv ct) ⟨us, []⟩ = pure (ps.zip us))
    (a : PySem.W.nsIn K mainGlobals x = some (some (.ref f))) (l : K.lookup f = some ⟨oc, od, .func (PySem.W.fnOf x x (defArgs st) (defBody st) (defScope st) .none kV doc pm an cdv ct), osl⟩) (c : PySem.W.codeIn K cdv x = true) (k : PySem.W.keepIn K (.ref f) = true) : DefAt K mg x st ps := by
  have F := fun_mk (st := st) l c k
  exact ⟨f, _, F, F.binds hb, PySem.W.mg_of X G a⟩
end
section
variable {X : Cx} {x : Str} {ps : List Str} {k : Nat} {R : List PyData → Res → Prop} {E : XK} {e : Expr} {es : List Expr} {t : TA} {p pos : Pos} {P : Program} {w : World} {K : PySem.W.Frag} {mg : Str → Option Value} {base : Heap}
/-- f(e, ..) -/
theorem pe_callD (h : DefOk P w K mg base x ps k R) (hr : Room k X.A) (hg : Gl X x) (hx : Passes (L2.CX X.prog X.w) X E) (ha : PA X (e :: es) t) (hX : X.prog = P ∧ X.w = w ∧ X.K = K ∧ X.mg = mg ∧ X.base = base := by exact ⟨rfl, rfl, rfl, rfl, rfl⟩) (hdb : (x == ("__debug__" : Str)) = false := by decide)
    (he : starEach (e :: es) X.env = (false, eval e X.env) :: starEach es X.env := by rfl) (hpl : (backTo pos (starEach es X.env)).any (·.1) = false := by rfl) : PE X (.Call (.Name x p) (e :: es) [] pos) (tCall (spD K R) [] E t) := by
  obtain ⟨rfl, rfl, rfl, rfl, rfl⟩ := hX
  obtain ⟨f, fd, F, B, M, Kp⟩ := h.ex
  exact pe_call F hr hg M Kp B .nil hx ha hdb he hpl
end
end D2

set_option Elab.async false
set_option linter.all false
set_option maxRecDepth 100000
set_option maxHeartbeats 4000000
namespace D2
open PySem PySem.Spec PyProof.Rows L2
section
variable {X : Cx}
/-- a loop's turn in a def that may raise -/
theorem PW0 {E₁ : Value → Shared → Prop} {Kx : Value → Shared → Prop} (hx : X.xe = fun e s' => wpAny (model X.prog X.w) X.A (leaving X.env e) (fun _ s'' => Kx e s'') E₁ s' := by rfl) : PassesOwn (model X.prog X.w) X.A X.env X.xe := passes_of hx
end
/-! ### the hand layer's rules over a written part that is named -/
section
variable {X : Cx} {K : PySem.W.Frag}
theorem k_ixL (h : X.K = K := by rfl) : IxR X (rIxL K) := h ▸ ix_list
theorem k_ixT (h : X.K = K := by rfl) : IxR X (rIxT K) := h ▸ ix_tup
theorem k_slL (h : X.K = K := by rfl) : SlR X (rSlL K) := h ▸ sl_list
theorem k_slT (h : X.K = K := by rfl) : SlR X (rSlA K) := h ▸ sl_tupA
theorem k_catT (h : X.K = K := by rfl) : OpR X (binaryOp .Add) (rCatA K) := h ▸ op_catA
theorem k_eqD (hu : X.A.units + 64 < cLine) (h : X.K = K := by rfl) : OpR X (compareOp .Eq) (rEqD K) := h ▸ op_eqD hu
theorem k_neD (hu : X.A.units + 64 < cLine) (h : X.K = K := by rfl) : OpR X (compareOp .NotEq) (rNeD K) := h ▸ op_neD hu
theorem k_len (h : X.K = K := by rfl) : CallR X (.builtin "len") (fun xs H Q => ∃ p ys, xs = [.ref p] ∧ (SqL K H p ys ∨ SqT K H p ys) ∧ Q (.int ys.length) H) := h ▸ call_len_seq
theorem k_listOf (h : X.K = K := by rfl) : CallR X (.type "list") (fun xs H Q => ∃ p ys, xs = [.ref p] ∧ (SqL K H p ys ∨ SqT K H p ys) ∧ ∀ l, H l = none → Q (.ref l) (upd H l (.lst ys))) := h ▸ call_list_of
theorem k_tupOf (h : X.K = K := by rfl) : CallR X (.type "tuple") (fun xs H Q => ∃ p ys, xs = [.ref p] ∧ ((SqL K H p ys ∧ ∀ l, H l = none → Q (.ref l) (upd H l (.tup ys))) ∨ (SqT K H p ys ∧ Q (.ref p) H))) := h ▸ call_tuple_of
theorem k_sum (hc : X.calm = true := by rfl) (h : X.K = K := by rfl) : CallR X (.builtin "sum") (rSum K) := h ▸ cr_sum hc
theorem k_all (hc : X.calm = true := by rfl) (h : X.K = K := by rfl) : CallR X (.builtin "all") (rAll K) := h ▸ cr_all hc
theorem k_any (hc : X.calm = true := by rfl) (h : X.K = K := by rfl) : CallR X (.builtin "any") (rAny K) := h ▸ cr_any hc
theorem k_isi (h : X.K = K := by rfl) : CallR X (.builtin "isinstance") (rIsi K) := h ▸ call_isi
theorem k_list {tg l : Expr} {tl : TE} (hl : PE X l tl) (h : X.K = K := by rfl) : PI X tg l (iList K tl) := h ▸ pi_list hl
theorem k_tup {tg l : Expr} {tl : TE} (hl : PE X l tl) (h : X.K = K := by rfl) : PI X tg l (iTup K tl) := h ▸ pi_tup hl
theorem k_truth {a : Expr} {ta : TE} (ha : PE X a ta) (he : ∀ whole, isTrue a X.env whole = (do let v ← whole; standAt a.pos; holding [v] (truthy v)) := by intro _; rfl) (h : X.K = K := by rfl) : PT X a (fun σ H Q => ta σ H fun x H' => ∃ k, TruV K x H' k ∧ Q k H') := h ▸ pt_truth ha he
theorem k_rev {e : Expr} {te : TE} {k : _} {p1 p2 p3 pos : Pos} (he : PE X e te) (h : X.K = K := by rfl) : PE X (.Subscript e (.Slice none none (some (.UnaryOp .USub (.Constant (.int 1) k p1) p2)) p3) pos) (tRevL K te) := h ▸ pe_revL he
theorem k_gtup {es : List Expr} {k : Nat} {t : TGs} {n : Nat} {pos : Pos} (hc : X.calm = true) (hp : PGs X es t) (hst : List.findIdx? (fun x => x.fst) (assignEach es X.env) = none := by rfl) (hn : (assignEach es X.env).length = n := by rfl) (h : X.K = K := by rfl) : PG X (.Tuple es k pos) (gTup K n t) := by
  subst h
  exact pg_tup hc hp hn hst
end
section
variable {K : PySem.W.Frag} {G H : Hp} {ρ : Env} {ta tb : TE}
theorem rc_lenS {ns : List Int} : RC K (fun xs H Q => ∃ p ys, xs = [.ref p] ∧ (SqL K H p ys ∨ SqT K H p ys) ∧ Q (.int ys.length) H) [scr ns] (.int ns.length) := fun G H vs s hv Q q => by
  obtain ⟨v, vs, rfl, ⟨a, ms, rfl, h2, h3⟩, rfl⟩ := hv
  have e : ns = ms := by
    have h4 : (ns.map PyData.int) = ms.map PyData.int := by
      have := List.cons.inj h3
      exact PyData.list.inj (Prod.mk.inj this.1).2
    exact (List.map_inj_right (fun x y h => PyData.int.inj h)).mp h4
  subst e
  refine ⟨a, ns.map V.int, rfl, .inl (Same.seq s h2), ?_⟩
  rw [List.length_map]
  exact q _ G H (Grow.refl s) rfl
theorem ed_ixS {ns : List Int} {i : Int} {n : Int} (ha : ED K ta ρ (scr ns)) (hb : ED K tb ρ (.int i)) {j : Nat} (hj : ixN ns.length i = some j) (hd : ns[j]? = some n) : ED K (tOp (rIxL K) ta tb) ρ (.int n) :=
  ed_op ha hb fun G H v w s hx hy Q q => by
    cases hy
    obtain ⟨a, ms, rfl, h2, h3⟩ := hx
    have e : ns = ms := by
      have h4 : (ns.map PyData.int) = ms.map PyData.int := by
        have := List.cons.inj h3
        exact PyData.list.inj (Prod.mk.inj this.1).2
      exact (List.map_inj_right (fun x y h => PyData.int.inj h)).mp h4
    subst e
    refine ⟨a, ns.map V.int, i, .int n, rfl, rfl, Same.seq s h2, ?_, q _ G H (Grow.refl s) rfl⟩
    unfold atI
    rw [List.length_map, hj]
    show (ns.map V.int)[j]? = _
    rw [List.getElem?_map, hd]; rfl
theorem ixN_in {n : Nat} {i : Int} (h0 : 0 ≤ i) (h1 : i < n) : ixN n i = some i.toNat := by
  unfold ixN
  rw [if_pos h0, if_pos h1]
theorem getD_get {α : Type} {xs : List α} {d : α} {j : Nat} (h : j < xs.length) : xs[j]? = some (xs.getD j d) := by
  rw [List.getD_eq_getElem?_getD, List.getElem?_eq_getElem h]; rfl
/-- an item of a list, a tuple of any length -/
theorem ed_ixLm {α : Type} {f : α → PyData} {xs : List α} {i : Int} (dflt : α) (ha : ED K ta ρ (.list (xs.map f))) (hb : ED K tb ρ (.int i)) (h0 : 0 ≤ i) (h1 : i < xs.length) : ED K (tOp (rIxL K) ta tb) ρ (f (xs.getD i.toNat dflt)) :=
  ed_ixL ha hb (ixN_in h0 (by rw [List.length_map]; exact h1)) (by rw [List.getElem?_map, getD_get (d := dflt) (by omega)]; rfl)
theorem ed_ixTm {α : Type} {f : α → PyData} {xs : List α} {i : Int} (dflt : α) (ha : ED K ta ρ (.tuple (xs.map f))) (hb : ED K tb ρ (.int i)) (h0 : 0 ≤ i) (h1 : i < xs.length) : ED K (tOp (rIxT K) ta tb) ρ (f (xs.getD i.toNat dflt)) :=
  ed_ixT ha hb (ixN_in h0 (by rw [List.length_map]; exact h1)) (by rw [List.getElem?_map, getD_get (d := dflt) (by omega)]; rfl)
theorem ed_ixLi {xs : List Int} {i : Int} (ha : ED K ta ρ (.list (xs.map .int))) (hb : ED K tb ρ (.int i)) (h0 : 0 ≤ i) (h1 : i < xs.length) : ED K (tOp (rIxL K) ta tb) ρ (.int (xs.getD i.toNat 0)) := ed_ixLm (f := .int) 0 ha hb h0 h1
theorem ed_ixTi {xs : List Int} {i : Int} (ha : ED K ta ρ (.tuple (xs.map .int))) (hb : ED K tb ρ (.int i)) (h0 : 0 ≤ i) (h1 : i < xs.length) : ED K (tOp (rIxT K) ta tb) ρ (.int (xs.getD i.toNat 0)) := ed_ixTm (f := .int) 0 ha hb h0 h1
theorem cutD_map {α β : Type} (f : α → β) (xs : List α) (lo hi : Option Int) : cutD (xs.map f) lo hi = (cutD xs lo hi).map f := by
  unfold cutD
  rw [List.length_map, List.map_take, List.map_drop]
theorem rc_allm {α : Type} {xs : List α} {p : α → Bool} : RC K (rAll K) [.list (xs.map fun x => .bool (p x))] (.bool (xs.all p)) := by
  have h := rc_all (K := K) (bs := xs.map p)
  rw [List.map_map, List.all_map] at h
  exact h
theorem rc_anym {α : Type} {xs : List α} {p : α → Bool} : RC K (rAny K) [.list (xs.map fun x => .bool (p x))] (.bool (xs.any p)) := by
  have h := rc_any (K := K) (bs := xs.map p)
  rw [List.map_map, List.any_map] at h
  exact h
theorem ed_revm {α : Type} {f : α → PyData} {xs : List α} {te : TE} (h : ED K te ρ (.list (xs.map f))) : ED K (tRevL K te) ρ (.list (xs.reverse.map f)) := by
  rw [List.map_reverse]
  exact ed_rev h
theorem ed_isN {x : PyData} {b : Bool} (ha : ED K ta ρ x) (h : ∀ G v, Rp K G x v → decide (v = .non) = b) (hb : ED K tb ρ .none) : ED K (tOp (fun x y H Q => y = .non ∧ Q (.bl (decide (x = .non))) H) ta tb) ρ (.bool b) :=
  ed_op ha hb fun G H v w s hx hy Q q => by
    cases hy
    exact ⟨rfl, by rw [h G v hx]; exact q _ G H (Grow.refl s) rfl⟩
end
theorem rng_at {lo : Int} {n : Nat} {pre post : List Int} {x : Int} (e : rng lo n = pre ++ x :: post) : pre.length < n ∧ x = lo + (pre.length : Int) := by
  have e1 := congrArg List.length e
  rw [rng_len, List.length_append, List.length_cons] at e1
  have h : pre.length < n := by omega
  refine ⟨h, ?_⟩
  have e2 := rng_get (lo := lo) h
  rw [e, List.getElem?_append_right (Nat.le_refl _), Nat.sub_self] at e2
  exact Option.some.inj e2
theorem rng_mem {lo : Int} {n : Nat} {x : Int} (h : x ∈ rng lo n) : lo ≤ x ∧ x < lo + n := by
  unfold rng at h
  obtain ⟨i, h1, rfl⟩ := List.mem_map.mp h
  have := List.mem_range.mp h1
  omega
/-- out of a call where nothing is let out nothing comes -/
theorem no_out {P : Program} {w : World} {H : Hp} {s : Shared} {e : Value} {s' : Shared} (h : L2.CX P w [] H s (fun _ _ _ => False) e s') : False := by
  obtain ⟨_, _, _, _, _, _, _, _, _, _, _, _, z⟩ := h
  exact z.elim
theorem law_sp_of {K : PySem.W.Frag} {R : List PyData → Res → Prop} {H : Hp} {a : Addr} {ns : List Int} (hR : R [scr ns] (.val (.bool true))) (hS : SqL K H a (ns.map V.int)) : spD K R [.ref a] H (fun v _ => v = .bl true) fun _ _ _ => False :=
  ⟨H, [scr ns], .val (.bool true), Same.refl H, ⟨.ref a, [], rfl, ⟨a, ns, rfl, hS, rfl⟩, rfl⟩, hR, fun v G2 H2 g r => r⟩
theorem shaped_tupm {α : Type} {f : α → PyData} {n : Nat} (hf : ∀ x, (f x).canLay0 = true ∧ (f x).depth ≤ n) (hn : n < 64) (xs : List α) : SeqAt.shaped (.tuple (xs.map f)) = true := by
  have h1 : ∀ xs : List α, PyData.canLayAll0 (xs.map f) = true := fun xs => by
    induction xs with
    | nil => rfl
    | cons x xs ih => show ((f x).canLay0 && PyData.canLayAll0 (xs.map f)) = true; rw [(hf x).1, ih]; rfl
  have h2 : ∀ xs : List α, PyData.depthAll (xs.map f) ≤ n := fun xs => by
    induction xs with
    | nil => exact Nat.zero_le _
    | cons x xs ih => show max (f x).depth (PyData.depthAll (xs.map f)) ≤ n; have := (hf x).2; omega
  unfold SeqAt.shaped
  rw [Bool.and_eq_true, decide_eq_true_eq]
  exact ⟨h1 xs, by show PyData.depthAll (xs.map f) + 1 ≤ 64; have := h2 xs; omega⟩
end D2

set_option Elab.async false
set_option linter.all false
set_option maxRecDepth 100000
set_option maxHeartbeats 4000000
namespace Lw
open PySem PySem.Spec PyProof.Rows L2 D2
def topS (i : Nat) : Stmt := PySem.Challenge.pw_onionpost_k73_parts_reckoned.main.body.getD i (.Pass ⟨0, 0, 0, 0⟩)
/-- a part, as the program has it -/
abbrev encQ (q : Rat) : PyData := .tuple [.int q.num, .int q.den]
theorem gcd_small {a b : Int} (hb : 0 < b) (h : b < 2 ^ 8000) : CDivW a (Int.gcd a b : Int) := by
  have h1 : 0 < Int.gcd a b := Int.gcd_pos_of_ne_zero_right _ (by omega)
  have h2 : Int.gcd a b ≤ b.natAbs := Int.gcd_le_natAbs_right _ (by omega)
  refine ⟨by omega, ?_⟩
  rw [Int.natAbs_natCast, Nat.log2_lt (by omega)]
  have h3 : (b.natAbs : Int) < 2 ^ 8000 := by omega
  have h4 : b.natAbs < 2 ^ 8000 := by exact_mod_cast h3
  exact Nat.lt_of_le_of_lt h2 (Nat.lt_trans h4 (Nat.pow_lt_pow_right (by decide) (by decide)))
theorem div_ratio {a b : Int} (hb : 0 < b) : (PyData.tuple [.int (a / (Int.gcd a b : Int)), .int (b / (Int.gcd a b : Int))]) = encQ (Rat.divInt a b) := by
  have h1 : (Rat.divInt a b).num = a / (Int.gcd a b : Int) := by rw [Rat.num_divInt, Int.sign_eq_one_of_pos hb, Int.one_mul, Int.gcd_comm]
  have h2 : ((Rat.divInt a b).den : Int) = b / (Int.gcd a b : Int) := by
    rw [Rat.den_divInt, if_neg (by omega), Int.natCast_ediv, Int.gcd_comm, Int.natAbs_of_nonneg (by omega)]
  show _ = PyData.tuple [.int _, .int _]
  rw [h1, h2]
abbrev st_is_integer : Stmt := topS 1
abbrev N_is_integer : List Str := ["thing"]
theorem sc_is_integer : FnScope N_is_integer ["thing"] (defScope st_is_integer) := ⟨rfl, rfl, rfl, by decide +kernel, rfl, by decide +kernel, by decide +kernel⟩
abbrev st_is_tuple_of : Stmt := topS 2
abbrev N_is_tuple_of : List Str := ["thing", "many"]
theorem sc_is_tuple_of : FnScope N_is_tuple_of ["thing", "many"] (defScope st_is_tuple_of) := ⟨rfl, rfl, rfl, by decide +kernel, rfl, by decide +kernel, by decide +kernel⟩
abbrev st_common : Stmt := topS 4
abbrev N_common : List Str := ["one", "other"]
theorem sc_common : FnScope N_common ["one", "other"] (defScope st_common) := ⟨rfl, rfl, rfl, by decide +kernel, rfl, by decide +kernel, by decide +kernel⟩
abbrev st_ratio : Stmt := topS 5
abbrev N_ratio : List Str := ["over", "under", "divisor"]
theorem sc_ratio : FnScope N_ratio ["over", "under"] (defScope st_ratio) := ⟨rfl, rfl, rfl, by decide +kernel, rfl, by decide +kernel, by decide +kernel⟩
abbrev st_plus : Stmt := topS 6
abbrev N_plus : List Str := ["one", "other"]
theorem sc_plus : FnScope N_plus ["one", "other"] (defScope st_plus) := ⟨rfl, rfl, rfl, by decide +kernel, rfl, by decide +kernel, by decide +kernel⟩
abbrev st_times : Stmt := topS 7
abbrev N_times : List Str := ["one", "other"]
theorem sc_times : FnScope N_times ["one", "other"] (defScope st_times) := ⟨rfl, rfl, rfl, by decide +kernel, rfl, by decide +kernel, by decide +kernel⟩
abbrev st_total : Stmt := topS 8
abbrev N_total : List Str := ["ratios", "found", "one"]
theorem sc_total : FnScope N_total ["ratios"] (defScope st_total) := ⟨rfl, rfl, rfl, by decide +kernel, rfl, by decide +kernel, by decide +kernel⟩
abbrev st_is_more : Stmt := topS 9
abbrev N_is_more : List Str := ["one", "other"]
theorem sc_is_more : FnScope N_is_more ["one", "other"] (defScope st_is_more) := ⟨rfl, rfl, rfl, by decide +kernel, rfl, by decide +kernel, by decide +kernel⟩
abbrev st_is_ratio : Stmt := topS 10
abbrev N_is_ratio : List Str := ["thing"]
theorem sc_is_ratio : FnScope N_is_ratio ["thing"] (defScope st_is_ratio) := ⟨rfl, rfl, rfl, by decide +kernel, rfl, by decide +kernel, by decide +kernel⟩
abbrev st_shared : Stmt := topS 11
abbrev N_shared : List Str := ["weights", "whole", "one"]
theorem sc_shared : FnScope N_shared ["weights"] (defScope st_shared) := ⟨rfl, rfl, rfl, by decide +kernel, rfl, by decide +kernel, by decide +kernel⟩
abbrev st__law_mixed : Stmt := topS 13
abbrev N__law_mixed : List Str := ["cell", "k", "first"]
theorem sc__law_mixed : FnScope N__law_mixed ["cell", "k"] (defScope st__law_mixed) := ⟨rfl, rfl, rfl, by decide +kernel, rfl, by decide +kernel, by decide +kernel⟩
abbrev st__law_row : Stmt := topS 14
abbrev N__law_row : List Str := ["cell", "many", "top", "found", "left", "great", "k"]
theorem sc__law_row : FnScope N__law_row ["cell", "many", "top"] (defScope st__law_row) := ⟨rfl, rfl, rfl, by decide +kernel, rfl, by decide +kernel, by decide +kernel⟩
abbrev st__law_at : Stmt := topS 15
abbrev N__law_at : List Str := ["script", "k"]
theorem sc__law_at : FnScope N__law_at ["script", "k"] (defScope st__law_at) := ⟨rfl, rfl, rfl, by decide +kernel, rfl, by decide +kernel, by decide +kernel⟩
abbrev st__law_ratio : Stmt := topS 16
abbrev N__law_ratio : List Str := ["one", "other", "first", "second", "step"]
theorem sc__law_ratio : FnScope N__law_ratio ["one", "other"] (defScope st__law_ratio) := ⟨rfl, rfl, rfl, by decide +kernel, rfl, by decide +kernel, by decide +kernel⟩
abbrev st__law_flag : Stmt := topS 17
abbrev N__law_flag : List Str := ["found", "due"]
theorem sc__law_flag : FnScope N__law_flag ["found", "due"] (defScope st__law_flag) := ⟨rfl, rfl, rfl, by decide +kernel, rfl, by decide +kernel, by decide +kernel⟩
abbrev st_law : Stmt := topS 18
abbrev N_law : List Str := ["script", "digits", "parts", "k", "part", "over", "under", "one", "other", "weights", "told", "bad", "thing"]
theorem sc_law : FnScope N_law ["script"] (defScope st_law) := ⟨rfl, rfl, rfl, by decide +kernel, rfl, by decide +kernel, by decide +kernel⟩
structure Txt (K : PySem.W.Frag) (mg : Str → Option Value) : Prop where
  d_is_integer : DefAt K mg "is_integer" st_is_integer ["thing"]
  d_is_tuple_of : DefAt K mg "is_tuple_of" st_is_tuple_of ["thing", "many"]
  d_common : DefAt K mg "common" st_common ["one", "other"]
  d_ratio : DefAt K mg "ratio" st_ratio ["over", "under"]
  d_plus : DefAt K mg "plus" st_plus ["one", "other"]
  d_times : DefAt K mg "times" st_times ["one", "other"]
  d_total : DefAt K mg "total" st_total ["ratios"]
  d_is_more : DefAt K mg "is_more" st_is_more ["one", "other"]
  d_is_ratio : DefAt K mg "is_ratio" st_is_ratio ["thing"]
  d_shared : DefAt K mg "shared" st_shared ["weights"]
  d__law_mixed : DefAt K mg "_law_mixed" st__law_mixed ["cell", "k"]
  d__law_row : DefAt K mg "_law_row" st__law_row ["cell", "many", "top"]
  d__law_at : DefAt K mg "_law_at" st__law_at ["script", "k"]
  d__law_ratio : DefAt K mg "_law_ratio" st__law_ratio ["one", "other"]
  d__law_flag : DefAt K mg "_law_flag" st__law_flag ["found", "due"]
  d_law : DefAt K mg "law" st_law ["script"]
  b_all : mg "all" = none
  b_bool : mg "bool" = none
  b_int : mg "int" = none
  b_isinstance : mg "isinstance" = none
  b_len : mg "len" = none
  b_list : mg "list" = none
  b_range : mg "range" = none
  b_sum : mg "sum" = none
  b_tuple : mg "tuple" = none
local macro_rules | `(tactic| walk_at "le") => `(tactic| ((try simp only [List.map_append, List.map_cons, List.map_nil]); repeat (first | exact trivial | exact Le.refl _ | refine And.intro (Or.inr rfl) ?_ | refine And.intro (Or.inl rfl) ?_)))
local macro_rules | `(tactic| walk_at "side") => `(tactic| first | rfl | assumption | omega | decide | (simp; done) | (simp; omega))
section
variable {P : Program} {w : World} {K : PySem.W.Frag} {mg : Str → Option Value} {base : Heap}
def isInt : PyData → Bool
  | .int _ => true
  | _ => false
def isBool : PyData → Bool
  | .bool _ => true
  | _ => false
theorem k_int (d : PyData) : kitB (tyOf d) "int" = some (isInt d || isBool d) := by cases d <;> rfl
theorem k_bool (d : PyData) : kitB (tyOf d) "bool" = some (isBool d) := by cases d <;> rfl
inductive R_is_integer : List PyData → Res → Prop
  | mk {d} : isD d = false → R_is_integer [d] (.val (.bool (isInt d)))
theorem d_is_integer (T : Txt K mg) : DefOk P w K mg base "is_integer" ["thing"] 1 R_is_integer :=
  T.d_is_integer.ok sc_is_integer (by decide) (by intro ds r h; cases h <;> rfl) fun f cdv Ar outer s H E hr => ⟨_, (pss_one (ps_ret (pe_and (pe_callB (k_isi (K := K)) (by rfl) T.b_isinstance (by decide +kernel) (pa_cons (pv 0) (pa_cons (pe_bltn (v := .ty "int") (by rfl) T.b_int (by decide +kernel) rfl) pa_nil))) (pe_one (pe_not (pe_callB (k_isi (K := K)) (by rfl) T.b_isinstance (by decide +kernel) (pa_cons (pv 0) (pa_cons (pe_bltn (v := .ty "bool") (by rfl) T.b_bool (by decide +kernel) rfl) pa_nil)))))))), fun ds r hR => by
    cases hR with
    | @mk d hd =>
      exact .inl (show SD K E _ [.da d] _ from (sd_ret (ED.to (ed_and (ed_isi hd (ed_var rfl) (k_int _)) (fun hb => (ed_not (ed_isi hd (ed_var rfl) (k_bool _))))) (by cases d <;> rfl))))⟩
def isTup : PyData → Bool
  | .tuple _ => true
  | _ => false
theorem k_tuple (d : PyData) : kitB (tyOf d) "tuple" = some (isTup d) := by cases d <;> rfl
def isTupOf (n : Int) : PyData → Bool
  | .tuple ds => decide ((ds.length : Int) = n)
  | _ => false
theorem of_isTup {d : PyData} (h : isTup d = true) : ∃ ds, d = .tuple ds := by cases d <;> first | exact ⟨_, rfl⟩ | cases h
inductive R_is_tuple_of : List PyData → Res → Prop
  | no {d n} : isD d = false → isTup d = false → R_is_tuple_of [d, .int n] (.val (.bool false))
  | yes {ds n} : R_is_tuple_of [.tuple ds, .int n] (.val (.bool (decide ((ds.length : Int) = n))))
theorem R_is_tuple_of.mk {d n} (h : isD d = false) : R_is_tuple_of [d, .int n] (.val (.bool (isTupOf n d))) := by
  cases d with
  | tuple ds => exact .yes
  | dict _ => cases h
  | _ => exact .no rfl rfl
theorem d_is_tuple_of (T : Txt K mg) : DefOk P w K mg base "is_tuple_of" ["thing", "many"] 1 R_is_tuple_of :=
  T.d_is_tuple_of.ok sc_is_tuple_of (by decide) (by intro ds r h; cases h <;> rfl) fun f cdv Ar outer s H E hr => ⟨_, (pss_one (ps_ret (pe_and (pe_callB (k_isi (K := K)) (by rfl) T.b_isinstance (by decide +kernel) (pa_cons (pv 0) (pa_cons (pe_bltn (v := .ty "tuple") (by rfl) T.b_tuple (by decide +kernel) rfl) pa_nil))) (pe_one (pe_cmpR op_eq (pe_callB (k_len (K := K)) (by rfl) T.b_len PySem.boot_len (pa_cons (pv 0) pa_nil)) (pv 1) (nomark _)))))), fun ds r hR => by
    cases hR with
    | @no d n hd hn =>
      exact .inl (show SD K E _ [.da d, .da (.int n)] _ from (sd_ret (ED.to (ed_and (b := false) (c := true) (ed_isi hd (ed_var rfl) (by rw [k_tuple, hn])) (fun hb => Bool.noConfusion hb)) rfl)))
    | @yes ds n =>
      exact .inl (show SD K E _ [.da (.tuple ds), .da (.int n)] _ from (sd_ret (ED.to (ed_and (ed_isi (by rfl) (ed_var rfl) (k_tuple _)) (fun hb => (ed_eqI (ed_cb (eda_cons (ed_var rfl) eda_nil) rc_lenT) (ed_var rfl)))) (by rfl))))⟩
inductive R_common : List PyData → Res → Prop
  | mk {a b} : 0 ≤ a → 0 ≤ b → R_common [.int a, .int b] (.val (.int (Int.gcd a b)))
theorem gcd_step (a b : Int) : Int.gcd b (a % b) = Int.gcd a b := by
  rw [Int.emod_def, Int.gcd_sub_mul_left_right, Int.gcd_comm]
theorem d_common (T : Txt K mg) : DefOk P w K mg base "common" ["one", "other"] 1 R_common :=
  T.d_common.ok sc_common (by decide) (by intro ds r h; cases h <;> rfl) fun f cdv Ar outer s H E hr => ⟨_, (pss_cons (ps_while PW0 (pt_cmpR op_ne (pv 1) pe_int (nomark _)) (pss_one (ps_par (i := 0) (j := 1) rfl sc_common.nd rfl rfl (by decide) rfl rfl (pa_cons (pv 1) (pa_cons (pe_op op_mod (pv 0) (pv 1)) pa_nil)) rfl)))
  (pss_one (ps_ret (pv 0)))), fun ds r hR => by
    cases hR with
    | @mk a b h0 h1 =>
      exact .inl (show SD K E _ [.da (.int a), .da (.int b)] _ from (sd_while (S := fun (p : Int × Int) => [.da (.int p.1), .da (.int p.2)]) (P := fun p => 0 ≤ p.1 ∧ 0 ≤ p.2 ∧ Int.gcd p.1 p.2 = Int.gcd a b) (μ := fun p => p.2.toNat) (cnd := fun p => !decide (p.2 = 0)) (step := fun p => (p.2, p.1 % p.2)) (b0 := (a, b)) (by exact ⟨h0, h1, rfl⟩) (by walk_at "le") (fun b hb => ((et_cmp (ed_neI (ed_var rfl) ed_int))).to (by walk_at "side" /-wc3-/)) (fun b hb hc => ⟨((sd_par (eda_cons (ed_var rfl) (eda_cons (ed_mod (ed_var rfl) (ed_var rfl) (by simp at hc; have := hb.2.1; omega)) eda_nil)))).weak (by walk_at "le"), (by simp at hc; refine ⟨hb.2.1, Int.emod_nonneg _ hc, ?_⟩; rw [← hb.2.2]; exact gcd_step _ _), (by simp at hc; have h2 := hb.2.1; have := Int.emod_lt_of_pos b.1 (show 0 < b.2 by omega); have := Int.emod_nonneg b.1 hc; show (b.1 % b.2).toNat < b.2.toNat; omega)⟩) (fun b hb hc => (sd_ret (ED.to (ed_var rfl) (by have h3 := hb.2.2; have h4 := hb.1; simp at hc; rw [hc, Int.gcd_zero_right] at h3; rw [← h3]; simp; omega))))))⟩
inductive R_ratio : List PyData → Res → Prop
  | mk {a b} : 0 ≤ a → 0 < b → b < 2 ^ 8000 → R_ratio [.int a, .int b] (.val (encQ (Rat.divInt a b)))
theorem d_ratio (T : Txt K mg) (h_common : DefOk P w K mg base "common" ["one", "other"] 1 R_common) : DefOk P w K mg base "ratio" ["over", "under"] 2 R_ratio :=
  T.d_ratio.ok sc_ratio (by decide) (by intro ds r h; cases h <;> rfl) fun f cdv Ar outer s H E hr => ⟨_, (pss_cons (ps_set (i := 2) sc_ratio.nd rfl (.inl rfl) (pe_callD h_common (hr.mono (by decide)) (by rfl) passL (pa_cons (pv 0) (pa_cons (pv 1) pa_nil))))
  (pss_one (ps_ret (pe_tup (pa_cons (pe_op op_fdivW (pv 0) (pv 2)) (pa_cons (pe_op op_fdivW (pv 1) (pv 2)) pa_nil)))))), fun ds r hR => by
    cases hR with
    | @mk a b h0 h1 h2 =>
      exact .inl (show SD K E _ [.da (.int a), .da (.int b), .un] _ from (sd_seq (sd_set (ed_call (eda_cons (ed_var rfl) (eda_cons (ed_var rfl) eda_nil)) (R_common.mk (by walk_at "side" /-c_common1-/) (by walk_at "side" /-c_common2-/))))
  (sd_ret (ED.to (ed_tup (eda_cons (ed_fdiv (ed_var rfl) (ed_var rfl) (by exact gcd_small h1 h2)) (eda_cons (ed_fdiv (ed_var rfl) (ed_var rfl) (by exact gcd_small h1 h2)) eda_nil))) (by exact div_ratio h1)))))⟩
theorem den_pos (q : Rat) : 0 < (q.den : Int) := by have := q.den_pos; omega
theorem plus_eq (p q : Rat) : Rat.divInt (p.num * q.den + q.num * p.den) (p.den * q.den) = p + q := by
  rw [Rat.add_def', ← Rat.divInt_ofNat]; rfl
theorem times_eq (p q : Rat) : Rat.divInt (p.num * q.num) (p.den * q.den) = p * q := by
  rw [Rat.mul_def', ← Rat.divInt_ofNat]; rfl
theorem pow_sum {a b : Int} (ha : a < 2 ^ 7000) (h0 : 0 < a) (hb : b < 2 ^ 64) (h1 : 0 < b) : a * b < 2 ^ 8000 := by
  have h2 : a * b < 2 ^ 7000 * 2 ^ 64 := Int.lt_of_lt_of_le (Int.mul_lt_mul_of_pos_right ha h1) (Int.mul_le_mul_of_nonneg_left (by omega) (by decide))
  exact Int.lt_trans h2 (by decide +kernel)
inductive R_plus : List PyData → Res → Prop
  | mk {p q : Rat} : 0 ≤ p.num → 0 ≤ q.num → q.num < 2 ^ 60 → (q.den : Int) < 2 ^ 60 → (p.den : Int) < 2 ^ 7000 → R_plus [encQ p, encQ q] (.val (encQ (p + q)))
theorem d_plus (T : Txt K mg) (h_ratio : DefOk P w K mg base "ratio" ["over", "under"] 2 R_ratio) : DefOk P w K mg base "plus" ["one", "other"] 3 R_plus :=
  T.d_plus.ok sc_plus (by decide) (by intro ds r h; cases h <;> rfl) fun f cdv Ar outer s H E hr => ⟨_, (pss_one (ps_ret (pe_callD h_ratio (hr.mono (by decide)) (by rfl) passL (pa_cons (pe_op op_add (pe_op op_mul (pe_ix (k_ixT (K := K)) (pv 0) pe_int (fun _ _ => rfl)) (pe_ix (k_ixT (K := K)) (pv 1) pe_int (fun _ _ => rfl))) (pe_op op_mul (pe_ix (k_ixT (K := K)) (pv 1) pe_int (fun _ _ => rfl)) (pe_ix (k_ixT (K := K)) (pv 0) pe_int (fun _ _ => rfl)))) (pa_cons (pe_op op_mul (pe_ix (k_ixT (K := K)) (pv 0) pe_int (fun _ _ => rfl)) (pe_ix (k_ixT (K := K)) (pv 1) pe_int (fun _ _ => rfl))) pa_nil))))), fun ds r hR => by
    cases hR with
    | @mk p q h0 h1 h2 h3 h4 =>
      have dp := den_pos p
      have dq := den_pos q
      exact .inl (show SD K E _ [.da (encQ p), .da (encQ q)] _ from (sd_ret (ED.to (ed_call (eda_cons (ed_add (ed_mul (ed_ixT (ed_var rfl) ed_int rfl rfl) (ed_ixT (ed_var rfl) ed_int rfl rfl) (by exact .inr (by omega))) (ed_mul (ed_ixT (ed_var rfl) ed_int rfl rfl) (ed_ixT (ed_var rfl) ed_int rfl rfl) (by exact .inl (by omega)))) (eda_cons (ed_mul (ed_ixT (ed_var rfl) ed_int rfl rfl) (ed_ixT (ed_var rfl) ed_int rfl rfl) (by exact .inr (by omega))) eda_nil)) (R_ratio.mk (by have a1 := Int.mul_nonneg h0 (Int.le_of_lt dq); have a2 := Int.mul_nonneg h1 (Int.le_of_lt dp); omega) (by exact Int.mul_pos dp dq) (by exact pow_sum h4 dp (by omega) dq))) (by rw [plus_eq]))))⟩
inductive R_times : List PyData → Res → Prop
  | mk {p q : Rat} : (0 ≤ p.num ∧ (p.den : Int) < 2 ^ 7000) → (0 ≤ q.num ∧ q.num < 2 ^ 60) → (q.den : Int) < 2 ^ 60 → R_times [encQ p, encQ q] (.val (encQ (p * q)))
theorem d_times (T : Txt K mg) (h_ratio : DefOk P w K mg base "ratio" ["over", "under"] 2 R_ratio) : DefOk P w K mg base "times" ["one", "other"] 3 R_times :=
  T.d_times.ok sc_times (by decide) (by intro ds r h; cases h <;> rfl) fun f cdv Ar outer s H E hr => ⟨_, (pss_one (ps_ret (pe_callD h_ratio (hr.mono (by decide)) (by rfl) passL (pa_cons (pe_op op_mul (pe_ix (k_ixT (K := K)) (pv 0) pe_int (fun _ _ => rfl)) (pe_ix (k_ixT (K := K)) (pv 1) pe_int (fun _ _ => rfl))) (pa_cons (pe_op op_mul (pe_ix (k_ixT (K := K)) (pv 0) pe_int (fun _ _ => rfl)) (pe_ix (k_ixT (K := K)) (pv 1) pe_int (fun _ _ => rfl))) pa_nil))))), fun ds r hR => by
    cases hR with
    | @mk p q h0 h1 h2 =>
      have dp := den_pos p
      have dq := den_pos q
      exact .inl (show SD K E _ [.da (encQ p), .da (encQ q)] _ from (sd_ret (ED.to (ed_call (eda_cons (ed_mul (ed_ixT (ed_var rfl) ed_int rfl rfl) (ed_ixT (ed_var rfl) ed_int rfl rfl) (by exact .inr (by omega))) (eda_cons (ed_mul (ed_ixT (ed_var rfl) ed_int rfl rfl) (ed_ixT (ed_var rfl) ed_int rfl rfl) (by exact .inr (by omega))) eda_nil)) (R_ratio.mk (by exact Int.mul_nonneg h0.1 h1.1) (by exact Int.mul_pos dp dq) (by exact pow_sum h0.2 dp (by omega) dq))) (by rw [times_eq]))))⟩
theorem num_add_nn {p q : Rat} (h0 : 0 ≤ p.num) (h1 : 0 ≤ q.num) : 0 ≤ (p + q).num := by
  have e : (p + q).num = (p.num * q.den + q.num * p.den) / (Int.gcd (p.num * q.den + q.num * p.den) (p.den * q.den) : Int) := by
    conv => lhs; rw [← plus_eq p q, Rat.num_divInt, Int.sign_eq_one_of_pos (Int.mul_pos (den_pos p) (den_pos q)), Int.one_mul, Int.gcd_comm]
  rw [e]
  exact Int.ediv_nonneg (Int.add_nonneg (Int.mul_nonneg h0 (Int.le_of_lt (den_pos q))) (Int.mul_nonneg h1 (Int.le_of_lt (den_pos p)))) (Int.natCast_nonneg _)
theorem den_add_le (p q : Rat) : (p + q).den ≤ p.den * q.den := by
  rw [Rat.add_def', Rat.den_mkRat]
  split
  · exact Nat.mul_pos p.den_pos q.den_pos
  · exact Nat.div_le_self _ _
theorem fold_ok : ∀ (ps : List Rat) (q : Rat), 0 ≤ q.num → (∀ p ∈ ps, 0 ≤ p.num ∧ p.num < 2 ^ 60 ∧ (p.den : Int) < 2 ^ 60) → 0 ≤ (ps.foldl (· + ·) q).num ∧ (ps.foldl (· + ·) q).den ≤ q.den * (2 ^ 60) ^ ps.length
  | [], q, h, _ => ⟨h, by simp⟩
  | p :: ps, q, h, hp => by
    obtain ⟨p0, p1, p2⟩ := hp p List.mem_cons_self
    obtain ⟨a, b⟩ := fold_ok ps (q + p) (num_add_nn h p0) fun x hx => hp x (List.mem_cons_of_mem _ hx)
    refine ⟨a, Nat.le_trans b ?_⟩
    have h1 := den_add_le q p
    have h2 : p.den ≤ 2 ^ 60 := by omega
    have h3 : (q + p).den ≤ q.den * 2 ^ 60 := Nat.le_trans h1 (Nat.mul_le_mul_left _ h2)
    calc (q + p).den * (2 ^ 60) ^ ps.length ≤ (q.den * 2 ^ 60) * (2 ^ 60) ^ ps.length := Nat.mul_le_mul_right _ h3
      _ = q.den * (2 ^ 60) ^ (p :: ps).length := by generalize (2 : Nat) ^ 60 = B; rw [List.length_cons, Nat.pow_succ, Nat.mul_assoc, Nat.mul_comm (B ^ ps.length) B]
theorem fold_small {ps : List Rat} (hl : ps.length ≤ 100) (h : ∀ p ∈ ps, 0 ≤ p.num ∧ p.num < 2 ^ 60 ∧ (p.den : Int) < 2 ^ 60) : 0 ≤ (ps.foldl (· + ·) 0).num ∧ ((ps.foldl (· + ·) 0).den : Int) < 2 ^ 7000 := by
  obtain ⟨a, b⟩ := fold_ok ps 0 (Int.le_refl _) h
  refine ⟨a, ?_⟩
  have h1 : (2 ^ 60) ^ ps.length ≤ (2 ^ 60) ^ 100 := Nat.pow_le_pow_right (by decide) hl
  have h2 : (ps.foldl (· + ·) 0).den ≤ (2 ^ 60) ^ 100 := Nat.le_trans b (by simpa using h1)
  have h3 : (ps.foldl (· + ·) 0).den < 2 ^ 7000 := Nat.lt_of_le_of_lt h2 (by rw [← Nat.pow_mul]; exact Nat.pow_lt_pow_right (by decide) (by decide))
  exact_mod_cast h3
inductive R_total : List PyData → Res → Prop
  | mk {ps : List Rat} : ps.length ≤ 100 → (∀ p ∈ ps, 0 ≤ p.num ∧ p.num < 2 ^ 60 ∧ (p.den : Int) < 2 ^ 60) → R_total [.list (ps.map encQ)] (.val (encQ (ps.foldl (· + ·) 0)))
theorem d_total (T : Txt K mg) (h_plus : DefOk P w K mg base "plus" ["one", "other"] 3 R_plus) : DefOk P w K mg base "total" ["ratios"] 4 R_total :=
  T.d_total.ok sc_total (by decide) (by intro ds r h; cases h <;> rfl) fun f cdv Ar outer s H E hr => ⟨_, (pss_cons (ps_set (i := 1) sc_total.nd rfl (.inl rfl) (pe_tup (pa_cons pe_int (pa_cons pe_int pa_nil))))
  (pss_cons (ps_for PW0 rfl (k_list (K := K) (pv 0)) (pg_name (i := 2) sc_total.nd rfl (.inl rfl)) (pss_one (ps_set (i := 1) sc_total.nd rfl (.inl rfl) (pe_callD h_plus (hr.mono (by decide)) (by rfl) passL (pa_cons (pv 1) (pa_cons (pv 2) pa_nil))))))
  (pss_one (ps_ret (pv 1))))), fun ds r hR => by
    cases hR with
    | @mk ps hl hp =>
      exact .inl (show SD K E _ [.da (.list (ps.map encQ)), .un, .un] _ from (sd_seq (sd_set (ed_tup (eda_cons ed_int (eda_cons ed_int eda_nil))))
  (sd_seq (sd_for (S := fun q : Rat => [.da (.list (ps.map encQ)), .da (encQ q), .un]) (step := fun q p => q + p) (b0 := 0) (f := encQ) (xs := ps) (it_list (ed_var rfl)) (by walk_at "le") (fun pre post x hx => ⟨_, gs_name, .inl (SD.weak (sd_set (ed_call (eda_cons (ed_var rfl) (eda_cons (ed_var rfl) eda_nil)) (R_plus.mk (by exact (fold_small (by have := congrArg List.length hx; simp at this; omega) (fun p h => hp p (by rw [hx]; simp [h]))).1) (by exact (hp x (by rw [hx]; simp)).1) (by exact (hp x (by rw [hx]; simp)).2.1) (by exact (hp x (by rw [hx]; simp)).2.2) (by exact (fold_small (by have := congrArg List.length hx; simp at this; omega) (fun p h => hp p (by rw [hx]; simp [h]))).2)))) (by walk_at "le"))⟩))
  (sd_ret (ED.to (ed_var rfl) (by rfl))))))⟩
inductive R_is_more : List PyData → Res → Prop
  | mk {p q : Rat} : (0 ≤ q.num ∧ q.num < 2 ^ 60) → (q.den : Int) < 2 ^ 60 → R_is_more [encQ p, encQ q] (.val (.bool (decide (q.num * p.den < p.num * q.den))))
theorem d_is_more (T : Txt K mg) : DefOk P w K mg base "is_more" ["one", "other"] 1 R_is_more :=
  T.d_is_more.ok sc_is_more (by decide) (by intro ds r h; cases h <;> rfl) fun f cdv Ar outer s H E hr => ⟨_, (pss_one (ps_ret (pe_cmpR op_gt (pe_op op_mul (pe_ix (k_ixT (K := K)) (pv 0) pe_int (fun _ _ => rfl)) (pe_ix (k_ixT (K := K)) (pv 1) pe_int (fun _ _ => rfl))) (pe_op op_mul (pe_ix (k_ixT (K := K)) (pv 1) pe_int (fun _ _ => rfl)) (pe_ix (k_ixT (K := K)) (pv 0) pe_int (fun _ _ => rfl))) (nomark _)))), fun ds r hR => by
    cases hR with
    | @mk p q h1 h2 =>
      have dq := den_pos q
      exact .inl (show SD K E _ [.da (encQ p), .da (encQ q)] _ from (sd_ret (ED.to (ed_gt (ed_mul (ed_ixT (ed_var rfl) ed_int rfl rfl) (ed_ixT (ed_var rfl) ed_int rfl rfl) (by exact .inr (by omega))) (ed_mul (ed_ixT (ed_var rfl) ed_int rfl rfl) (ed_ixT (ed_var rfl) ed_int rfl rfl) (by exact .inl (by omega)))) (by rfl))))⟩
theorem shp_pair (a b : Int) : SeqAt.shaped (.tuple [.int a, .int b]) = true := rfl
inductive R_is_ratio : List PyData → Res → Prop
  | no {d} : isD d = false → isTupOf 2 d = false → R_is_ratio [d] (.val (.bool false))
  | no1 {x y} : isD x = false → isInt x = false → R_is_ratio [.tuple [x, y]] (.val (.bool false))
  | no2 {x y} : isD x = false → isInt x = true → isD y = false → isInt y = false → R_is_ratio [.tuple [x, y]] (.val (.bool false))
  | yes {a b : Int} : b < 2 ^ 8000 → R_is_ratio [.tuple [.int a, .int b]] (.val (.bool (decide (0 ≤ a) && (decide (0 < b) && PyData.eqv (encQ (Rat.divInt a b)) (.tuple [.int a, .int b])))))
theorem R_is_ratio.mk {q : Rat} (h : 0 ≤ q.num) (h1 : (q.den : Int) < 2 ^ 8000) : R_is_ratio [encQ q] (.val (.bool true)) := by
  have e := R_is_ratio.yes (a := q.num) (b := q.den) h1
  have e2 : Rat.divInt q.num q.den = q := Rat.num_divInt_den q
  rw [e2, decide_eq_true h, decide_eq_true (den_pos q), SeqAt.eqv_refl _ rfl] at e
  exact e
theorem d_is_ratio (T : Txt K mg) (h_is_integer : DefOk P w K mg base "is_integer" ["thing"] 1 R_is_integer) (h_is_tuple_of : DefOk P w K mg base "is_tuple_of" ["thing", "many"] 1 R_is_tuple_of) (h_ratio : DefOk P w K mg base "ratio" ["over", "under"] 2 R_ratio) : DefOk P w K mg base "is_ratio" ["thing"] 3 R_is_ratio :=
  T.d_is_ratio.ok sc_is_ratio (by decide) (by intro ds r h; cases h <;> rfl) fun f cdv Ar outer s H E hr => ⟨_, (pss_cons (ps_if (PW.pt (pw_or (pt_not (pt_val (pe_callD h_is_tuple_of (hr.mono (by decide)) (by rfl) passL (pa_cons (pv 0) (pa_cons pe_int pa_nil))))) (pw_or (pt_not (pt_val (pe_callD h_is_integer (hr.mono (by decide)) (by rfl) passL (pa_cons (pe_ix (k_ixT (K := K)) (pv 0) pe_int (fun _ _ => rfl)) pa_nil)))) (pw_or1 (pt_not (pt_val (pe_callD h_is_integer (hr.mono (by decide)) (by rfl) passL (pa_cons (pe_ix (k_ixT (K := K)) (pv 0) pe_int (fun _ _ => rfl)) pa_nil)))))))) (pss_one (ps_ret pe_bl)) pss_nil)
  (pss_one (ps_ret (pe_and (pe_cmpR op_ge (pe_ix (k_ixT (K := K)) (pv 0) pe_int (fun _ _ => rfl)) pe_int (nomark _)) (pe_and (pe_cmpR op_gt (pe_ix (k_ixT (K := K)) (pv 0) pe_int (fun _ _ => rfl)) pe_int (nomark _)) (pe_one (pe_cmpR (k_eqD hr.units (K := K)) (pe_callD h_ratio (hr.mono (by decide)) (by rfl) passL (pa_cons (pe_ix (k_ixT (K := K)) (pv 0) pe_int (fun _ _ => rfl)) (pa_cons (pe_ix (k_ixT (K := K)) (pv 0) pe_int (fun _ _ => rfl)) pa_nil))) (pv 0) (nomark _)))))))), fun ds r hR => by
    cases hR with
    | @no d hd h =>
      exact .inl (show SD K E _ [.da d] _ from (sd_ifs (b := true) (et_or (b := true) (c := true) ((et_not (et_val (ed_call (eda_cons (ed_var rfl) (eda_cons ed_int eda_nil)) (R_is_tuple_of.mk hd)))).to (by rw [h]; rfl)) (fun hb => Bool.noConfusion hb)) (fun _ => (sd_ret_seq ed_bl)) (fun hb => Bool.noConfusion hb)))
    | @no1 x y hx h =>
      exact .inl (show SD K E _ [.da (.tuple [x, y])] _ from (sd_ifs (b := true) (et_or (b := false) ((et_not (et_val (ed_call (eda_cons (ed_var rfl) (eda_cons ed_int eda_nil)) R_is_tuple_of.yes))).to rfl) (fun _ => et_or (b := true) (c := true) ((et_not (et_val (ed_call (eda_cons (ed_ixT (ed_var rfl) ed_int rfl rfl) eda_nil) (R_is_integer.mk hx)))).to (by rw [h]; rfl)) (fun hb => Bool.noConfusion hb))) (fun _ => (sd_ret_seq ed_bl)) (fun hb => Bool.noConfusion hb)))
    | @no2 x y hx h hy h2 =>
      exact .inl (show SD K E _ [.da (.tuple [x, y])] _ from (sd_ifs (b := true) (et_or (b := false) ((et_not (et_val (ed_call (eda_cons (ed_var rfl) (eda_cons ed_int eda_nil)) R_is_tuple_of.yes))).to rfl) (fun _ => et_or (b := false) ((et_not (et_val (ed_call (eda_cons (ed_ixT (ed_var rfl) ed_int rfl rfl) eda_nil) (R_is_integer.mk hx)))).to (by rw [h]; rfl)) (fun _ => ((et_not (et_val (ed_call (eda_cons (ed_ixT (ed_var rfl) ed_int rfl rfl) eda_nil) (R_is_integer.mk hy)))).to (show _ = true by rw [h2]; rfl))))) (fun _ => (sd_ret_seq ed_bl)) (fun hb => Bool.noConfusion hb)))
    | @yes a b h =>
      exact .inl (show SD K E _ [.da (.tuple [.int a, .int b])] _ from (sd_ifs (et_or (et_not (et_val (ed_call (eda_cons (ed_var rfl) (eda_cons ed_int eda_nil)) R_is_tuple_of.yes))) (fun hb => (et_or (et_not (et_val (ed_call (eda_cons (ed_ixT (ed_var rfl) ed_int (by rfl) (by rfl)) eda_nil) (R_is_integer.mk (by rfl))))) (fun hb => (et_not (et_val (ed_call (eda_cons (ed_ixT (ed_var rfl) ed_int (by rfl) (by rfl)) eda_nil) (R_is_integer.mk (by rfl))))))))) (fun hb => (sd_ret_seq (ED.to ed_bl (by cases hb)))) (fun hb => (sd_nexts (sd_ret (ED.to (ed_and (ed_ge (ed_ixT (ed_var rfl) ed_int (by rfl) (by rfl)) ed_int) (fun hb => (ed_and (ed_gt (ed_ixT (ed_var rfl) ed_int (by rfl) (by rfl)) ed_int) (fun hb => (ed_eqD (ed_call (eda_cons (ed_ixT (ed_var rfl) ed_int (by rfl) (by rfl)) (eda_cons (ed_ixT (ed_var rfl) ed_int (by rfl) (by rfl)) eda_nil)) (R_ratio.mk (by exact of_decide_eq_true (by assumption)) (by exact of_decide_eq_true (by assumption)) (by exact h))) (ed_var rfl) (by rfl) (by rfl)))))) (by rfl)))))))⟩
theorem shaped_all {α : Type} {f : α → PyData} (hf : ∀ x, (f x).canLay0 = true ∧ (f x).depth ≤ 3) : ∀ xs : List α, PyData.canLayAll0 (xs.map f) = true
  | [] => rfl
  | x :: xs => by
    show ((f x).canLay0 && PyData.canLayAll0 (xs.map f)) = true
    rw [(hf x).1, shaped_all hf xs]; rfl
inductive R_shared : List PyData → Res → Prop
  | mk {ws : List Int} : ws.length ≤ 100 → (∀ x ∈ ws, 0 ≤ x) → (0 < ws.sum ∧ ws.sum < 2 ^ 60) → R_shared [.list (ws.map .int)] (.val (.tuple ((ws.map fun x => Rat.divInt x ws.sum).map encQ)))
theorem d_shared (T : Txt K mg) (h_ratio : DefOk P w K mg base "ratio" ["over", "under"] 2 R_ratio) : DefOk P w K mg base "shared" ["weights"] 3 R_shared :=
  T.d_shared.ok sc_shared (by decide) (by intro ds r h; cases h <;> rfl) fun f cdv Ar outer s H E hr => ⟨_, (pss_cons (ps_set (i := 1) sc_shared.nd rfl (.inr rfl) (pe_callB (k_sum (K := K)) (by rfl) T.b_sum (by decide +kernel) (pa_cons (pv 0) pa_nil)))
  (pss_one (ps_ret (pe_callTy (k_tupOf (K := K)) (by rfl) T.b_tuple (by decide +kernel) (pa_cons (pe_lc (own := [("one", 2)]) (g := (gName 2)) (tt := tYes) rfl sc_shared.nd (k_list (K := K) (pv 0)) (blkOk_by (N := N_shared) (sc := defScope st_shared) (by decide +kernel)) (fun _ _ _ _ _ => (pg_name (i := 2) sc_shared.nd rfl (.inl rfl))) (fun _ _ _ _ _ => pts_nil) (fun _ _ _ _ _ => (pe_callD h_ratio (hr.mono (by decide)) (by rfl) passL (pa_cons (pv 2) (pa_cons (pv 1) pa_nil))))) pa_nil))))), fun ds r hR => by
    cases hR with
    | @mk ws hl h0 h1 =>
      exact .inl (show SD K E _ [.da (.list (ws.map .int)), .un, .un] _ from (sd_seq (sd_set (ed_cb (eda_cons (ed_var rfl) eda_nil) rc_sum))
  (sd_ret (ED.to (ed_cb (eda_cons (ed_lc_map (xs := ws) (f := .int) (h := fun x => encQ (Rat.divInt x ws.sum)) (it_list (ed_var rfl)) (by exact Nat.le_trans hl (by decide)) (fun x hx => ⟨_, (gd_name (by decide)), ((ed_call (eda_cons (ed_var rfl) (eda_cons (ed_var rfl) eda_nil)) (R_ratio.mk (by exact h0 _ hx) (by exact h1.1) (by exact Int.lt_trans h1.2 (by decide +kernel))))).to (by rfl)⟩)) eda_nil) rc_tuple_l) (by rw [List.map_map]; rfl)))))⟩
def lawMixed (c k : Int) : Int := ((c * 48271 + k * 69621 + 11) * 16807 + (c * 48271 + k * 69621 + 11) / 8191) % 2147483647
inductive R__law_mixed : List PyData → Res → Prop
  | mk {c k} : R__law_mixed [.int c, .int k] (.val (.int (lawMixed c k)))
theorem d__law_mixed (T : Txt K mg) : DefOk P w K mg base "_law_mixed" ["cell", "k"] 1 R__law_mixed :=
  T.d__law_mixed.ok sc__law_mixed (by decide) (by intro ds r h; cases h <;> rfl) fun f cdv Ar outer s H E hr => ⟨_, (pss_cons (ps_set (i := 2) sc__law_mixed.nd rfl (.inl rfl) (pe_op op_add (pe_op op_add (pe_op op_mul (pe_callTy call_int1 (by rfl) T.b_int (by decide +kernel) (pa_cons (pv 0) pa_nil)) pe_int) (pe_op op_mul (pv 1) pe_int)) pe_int))
  (pss_one (ps_ret (pe_op op_mod (pe_callTy call_int1 (by rfl) T.b_int (by decide +kernel) (pa_cons (pe_op op_add (pe_op op_mul (pv 2) pe_int) (pe_op op_fdivW (pv 2) pe_int)) pa_nil)) pe_int)))), fun ds r hR => by
    cases hR with
    | @mk c k =>
      exact .inl (show SD K E _ [.da (.int c), .da (.int k), .un] _ from (sd_seq (sd_set (ed_add (ed_add (ed_mul (ed_cb (eda_cons (ed_var rfl) eda_nil) rc_int) ed_int (by exact .inr (by decide))) (ed_mul (ed_var rfl) ed_int (by exact .inr (by decide)))) ed_int))
  (sd_ret (ED.to (ed_mod (ed_cb (eda_cons (ed_add (ed_mul (ed_var rfl) ed_int (by exact .inr (by decide))) (ed_fdiv (ed_var rfl) ed_int (by exact ⟨by decide, by decide +kernel⟩))) eda_nil) rc_int) ed_int (by walk_at "side" /-mod5-/)) (by rfl)))))⟩
def rowStep (c t : Int) (p : List Int × Int) (k : Int) : List Int × Int := if decide (1000000000000000000 ≤ c) = true then (p.1 ++ [p.2 % t], p.2 / t) else (p.1 ++ [lawMixed c k / 7 % t], p.2)
def lawRow (c n t : Int) : List Int := ((rng 0 n.toNat).foldl (rowStep c t) ([], c)).1
theorem rowStep_len (c t : Int) (p : List Int × Int) (k : Int) : (rowStep c t p k).1.length = p.1.length + 1 := by unfold rowStep; split <;> simp
theorem rowFold_len (c t : Int) : ∀ (ks : List Int) (p : List Int × Int), (ks.foldl (rowStep c t) p).1.length = p.1.length + ks.length
  | [], p => rfl
  | k :: ks, p => by rw [List.foldl_cons, rowFold_len c t ks, rowStep_len, List.length_cons]; omega
theorem rowFold_in (c t : Int) (ht : 0 < t) : ∀ (ks : List Int) (p : List Int × Int), (∀ x ∈ p.1, 0 ≤ x ∧ x < t) → ∀ x ∈ (ks.foldl (rowStep c t) p).1, 0 ≤ x ∧ x < t
  | [], p, h => h
  | k :: ks, p, h => by
    rw [List.foldl_cons]
    refine rowFold_in c t ht ks _ fun x hx => ?_
    unfold rowStep at hx
    split at hx
    · rcases List.mem_append.mp hx with hx | hx
      · exact h x hx
      · rw [List.mem_singleton.mp hx]; exact ⟨Int.emod_nonneg _ (by omega), Int.emod_lt_of_pos _ ht⟩
    · rcases List.mem_append.mp hx with hx | hx
      · exact h x hx
      · rw [List.mem_singleton.mp hx]; exact ⟨Int.emod_nonneg _ (by omega), Int.emod_lt_of_pos _ ht⟩
theorem lawRow_len (c n t : Int) : (lawRow c n t).length = n.toNat := by unfold lawRow; rw [rowFold_len, rng_len]; simp
theorem lawRow_in {c n t : Int} (ht : 0 < t) : ∀ x ∈ lawRow c n t, 0 ≤ x ∧ x < t := rowFold_in c t ht _ _ (fun _ h => by simp at h)
inductive R__law_row : List PyData → Res → Prop
  | mk {c n t} : 0 ≤ n → n ≤ 1000 → 0 < t → t < 1000000 → R__law_row [.int c, .int n, .int t] (.val (.list ((lawRow c n t).map .int)))
theorem div_small {a t : Int} (h0 : 0 < t) (h1 : t < 1000000) : CDivW a t := ⟨h0, by
  rw [Nat.log2_lt (by omega)]
  exact Nat.lt_of_lt_of_le (show t.natAbs < 2 ^ 20 by omega) (Nat.pow_le_pow_right (by decide) (by decide))⟩
theorem d__law_row (T : Txt K mg) (h__law_mixed : DefOk P w K mg base "_law_mixed" ["cell", "k"] 1 R__law_mixed) : DefOk P w K mg base "_law_row" ["cell", "many", "top"] 2 R__law_row :=
  T.d__law_row.ok sc__law_row (by decide) (by intro ds r h; cases h <;> rfl) fun f cdv Ar outer s H E hr => ⟨_, (pss_cons (ps_set (i := 3) sc__law_row.nd rfl (.inl rfl) (pe_lst pa_nil))
  (pss_cons (ps_set (i := 4) sc__law_row.nd rfl (.inl rfl) (pe_callTy call_int1 (by rfl) T.b_int (by decide +kernel) (pa_cons (pv 0) pa_nil)))
  (pss_cons (ps_set (i := 5) sc__law_row.nd rfl (.inl rfl) (pe_cmpR op_ge (pv 4) pe_int (nomark _)))
  (pss_cons (ps_for PW0 rfl (pi_range1 (by rfl) T.b_range (pa_cons (pv 1) pa_nil)) (pg_name (i := 6) sc__law_row.nd rfl (.inl rfl)) (pss_one (ps_if (pt_val (pv 5)) (pss_cons (ps_expr (pe_bm PySem.F.plainAttrs_list PySem.F.slot_list_append PySem.F.type_list_append mt_append (pv 3) (pa_cons (pe_op op_mod (pe_callTy call_int1 (by rfl) T.b_int (by decide +kernel) (pa_cons (pv 4) pa_nil)) (pv 2)) pa_nil)))
  (pss_one (ps_set (i := 4) sc__law_row.nd rfl (.inl rfl) (pe_op op_fdivW (pv 4) (pv 2))))) (pss_one (ps_expr (pe_bm PySem.F.plainAttrs_list PySem.F.slot_list_append PySem.F.type_list_append mt_append (pv 3) (pa_cons (pe_op op_mod (pe_op op_fdivW (pe_callD h__law_mixed (hr.mono (by decide)) (by rfl) passL (pa_cons (pv 0) (pa_cons (pv 6) pa_nil))) pe_int) (pv 2)) pa_nil)))))))
  (pss_one (ps_ret (pv 3))))))), fun ds r hR => by
    cases hR with
    | @mk c n t h0 h1 h2 h3 =>
      exact .inl (show SD K E _ [.da (.int c), .da (.int n), .da (.int t), .un, .un, .un, .un] _ from (sd_seq (sd_new eda_nil (by simp))
  (sd_seq (sd_set (ed_cb (eda_cons (ed_var rfl) eda_nil) rc_int))
  (sd_seq (sd_set (ed_ge (ed_var rfl) ed_int))
  (sd_seq (sd_for (S := fun p : List Int × Int => [.da (.int c), .da (.int n), .da (.int t), .ml (p.1.map .int), .da (.int p.2), .da (.bool (decide (1000000000000000000 ≤ c))), .un]) (step := rowStep c t) (b0 := ([], c)) (f := .int) (xs := rng 0 n.toNat) (it_rng1 (eda_cons (ed_var rfl) eda_nil) (by omega) (by omega)) (by walk_at "le") (fun pre post x hx => ⟨_, gs_name, .inl (sd_if (et_val (ed_var rfl)) (fun hb => (sd_seq (sd_append rfl (ed_mod (ed_cb (eda_cons (ed_var rfl) eda_nil) rc_int) (ed_var rfl) (by omega)) (by have := congrArg List.length hx; rw [rng_len] at this; simp at this; rw [List.length_map, rowFold_len]; show _ ≤ 1000000; simp; omega))
  (SD.weak (sd_set (ed_fdiv (ed_var rfl) (ed_var rfl) (by exact div_small h2 h3))) (by rw [rowStep, if_pos hb]; simp only [List.map_append, List.map_cons, List.map_nil]; walk_at "le")))) (fun hb => (SD.weak (sd_append rfl (ed_mod (ed_fdiv (ed_call (eda_cons (ed_var rfl) (eda_cons (ed_var rfl) eda_nil)) (R__law_mixed.mk)) ed_int (by exact ⟨by decide, by decide +kernel⟩)) (ed_var rfl) (by omega)) (by have := congrArg List.length hx; rw [rng_len] at this; simp at this; rw [List.length_map, rowFold_len]; show _ ≤ 1000000; simp; omega)) (by rw [rowStep, if_neg (by rw [hb]; exact Bool.false_ne_true)]; simp only [List.map_append, List.map_cons, List.map_nil]; walk_at "le"))))⟩))
  (sd_freeze 3 rfl (sd_ret (ED.to (ed_var rfl) (by rfl)))))))))⟩
def lawAt (ns : List Int) (k : Nat) : Int := if k < ns.length then ns.getD k 0 else 5 + 3 * (k : Int)
inductive R__law_at : List PyData → Res → Prop
  | mk {ns : List Int} {k : Nat} : R__law_at [scr ns, .int (k : Int)] (.val (.int (lawAt ns k)))
theorem d__law_at (T : Txt K mg) : DefOk P w K mg base "_law_at" ["script", "k"] 1 R__law_at :=
  T.d__law_at.ok sc__law_at (by decide) (by intro ds r h; cases h <;> rfl) fun f cdv Ar outer s H E hr => ⟨_, (pss_cons (ps_if (pt_cmpR op_lt (pv 1) (pe_callB (k_len (K := K)) (by rfl) T.b_len PySem.boot_len (pa_cons (pv 0) pa_nil)) (nomark _)) (pss_one (ps_ret (pe_callTy call_int1 (by rfl) T.b_int (by decide +kernel) (pa_cons (pe_ix (k_ixL (K := K)) (pv 0) (pv 1) (fun _ _ => rfl)) pa_nil)))) pss_nil)
  (pss_one (ps_ret (pe_op op_add pe_int (pe_op op_mul pe_int (pv 1)))))), fun ds r hR => by
    cases hR with
    | @mk ns k =>
      exact .inl (show SD K E _ [.da (scr ns), .da (.int (k : Int))] _ from (sd_ifs (et_cmp (ed_lt (ed_var rfl) (ed_cb (eda_cons (ed_var rfl) eda_nil) rc_lenS))) (fun hb => (sd_ret_seq (ED.to (ed_cb (eda_cons (ed_ixS (ed_var rfl) (ed_var rfl) (by exact ixN_nat (by simp at hb; omega)) (by exact getD_get (d := 0) (by simp at hb; omega))) eda_nil) rc_int) (by unfold lawAt; rw [if_pos (by simp at hb; omega)])))) (fun hb => (sd_nexts (sd_ret (ED.to (ed_add ed_int (ed_mul ed_int (ed_var rfl) (by exact .inl (by decide)))) (by unfold lawAt; rw [if_neg (by simp at hb; omega)])))))))⟩
def euS (p : Int × Int) : Int × Int := if p.2 ≠ 0 then (p.2, p.1 % p.2) else p
def euN : Nat → Int × Int → Int × Int
  | 0, p => p
  | n + 1, p => euN n (euS p)
theorem euN_fold {α : Type} : ∀ (ks : List α) (p : Int × Int), ks.foldl (fun p _ => euS p) p = euN ks.length p
  | [], p => rfl
  | k :: ks, p => by rw [List.foldl_cons, euN_fold ks]; rfl
theorem euS_ok {p : Int × Int} (h : 0 ≤ p.1 ∧ 0 ≤ p.2) : (0 ≤ (euS p).1 ∧ 0 ≤ (euS p).2) ∧ Int.gcd (euS p).1 (euS p).2 = Int.gcd p.1 p.2 := by
  unfold euS
  split
  · rename_i e
    exact ⟨⟨h.2, Int.emod_nonneg _ e⟩, gcd_step _ _⟩
  · exact ⟨h, rfl⟩
theorem euN_ok : ∀ (n : Nat) (p : Int × Int), 0 ≤ p.1 ∧ 0 ≤ p.2 → (0 ≤ (euN n p).1 ∧ 0 ≤ (euN n p).2) ∧ Int.gcd (euN n p).1 (euN n p).2 = Int.gcd p.1 p.2
  | 0, p, h => ⟨h, rfl⟩
  | n + 1, p, h => by
    obtain ⟨a, b⟩ := euS_ok h
    obtain ⟨c, d⟩ := euN_ok n (euS p) a
    exact ⟨c, d.trans b⟩
theorem euS_zero {p : Int × Int} (h : p.2 = 0) : euS p = p := by unfold euS; rw [if_neg (by simp [h])]
theorem euS_nz {p : Int × Int} (h : ¬ p.2 = 0) : euS p = (p.2, p.1 % p.2) := by unfold euS; rw [if_pos h]
theorem euN_zero : ∀ (n : Nat) {p : Int × Int}, p.2 = 0 → euN n p = p
  | 0, _, _ => rfl
  | n + 1, p, h => by show euN n (euS p) = p; rw [euS_zero h]; exact euN_zero n h
/-- two steps halve -/
theorem euS_half {p : Int × Int} (h : 0 ≤ p.2) : 2 * (euS (euS p)).2 ≤ p.2 := by
  by_cases e : p.2 = 0
  · rw [euS_zero e, euS_zero e]; omega
  · have h1 : euS p = (p.2, p.1 % p.2) := by unfold euS; rw [if_pos e]
    have h2 := Int.emod_nonneg p.1 e
    have h3 := Int.emod_lt_of_pos p.1 (show 0 < p.2 by omega)
    rw [h1]
    by_cases e2 : p.1 % p.2 = 0
    · rw [euS_zero (p := (p.2, p.1 % p.2)) e2]; show 2 * (p.1 % p.2) ≤ p.2; omega
    · have h4 : euS (p.2, p.1 % p.2) = (p.1 % p.2, p.2 % (p.1 % p.2)) := by unfold euS; rw [if_pos e2]
      rw [h4]
      show 2 * (p.2 % (p.1 % p.2)) ≤ p.2
      generalize p.1 % p.2 = r at *
      have h5 := Int.emod_nonneg p.2 e2
      have h6 := Int.emod_lt_of_pos p.2 (show 0 < r by omega)
      have h7 := Int.emod_add_mul_ediv p.2 r
      have h8 : 1 ≤ p.2 / r := (Int.le_ediv_iff_mul_le (by omega)).mpr (by omega)
      have h9 : r * 1 ≤ r * (p.2 / r) := Int.mul_le_mul_of_nonneg_left h8 h2
      omega
theorem euN_end : ∀ (m : Nat) (p : Int × Int), 0 ≤ p.1 ∧ 0 ≤ p.2 → p.2 < 2 ^ m → (euN (2 * m) p).2 = 0
  | 0, p, h, hp => by
    have : p.2 = 0 := by have := h.2; simp at hp; omega
    exact this
  | m + 1, p, h, hp => by
    have a := (euS_ok h).1
    have b := (euS_ok a).1
    have c := euS_half h.2
    exact euN_end m (euS (euS p)) b (by have : (2 : Int) ^ (m + 1) = 2 ^ m * 2 := Int.pow_succ ..; omega)
theorem eu400 {a b : Int} (ha : 0 ≤ a) (hb : 0 < b) (h : b < 2 ^ 200) : (euN 400 (a, b)).1 = Int.gcd a b := by
  have h1 := euN_end 200 (a, b) ⟨ha, Int.le_of_lt hb⟩ h
  obtain ⟨h2, h3⟩ := euN_ok 400 (a, b) ⟨ha, Int.le_of_lt hb⟩
  rw [show 2 * 200 = 400 from rfl] at h1
  rw [h1, Int.gcd_zero_right] at h3
  rw [← h3]; omega
inductive R__law_ratio : List PyData → Res → Prop
  | mk {a b} : 0 ≤ a → 0 < b → b < 2 ^ 200 → R__law_ratio [.int a, .int b] (.val (encQ (Rat.divInt a b)))
theorem d__law_ratio (T : Txt K mg) : DefOk P w K mg base "_law_ratio" ["one", "other"] 1 R__law_ratio :=
  T.d__law_ratio.ok sc__law_ratio (by decide) (by intro ds r h; cases h <;> rfl) fun f cdv Ar outer s H E hr => ⟨_, (pss_cons (ps_set (i := 2) sc__law_ratio.nd rfl (.inl rfl) (pv 0))
  (pss_cons (ps_set (i := 3) sc__law_ratio.nd rfl (.inl rfl) (pv 1))
  (pss_cons (ps_for PW0 rfl (pi_range1 (by rfl) T.b_range (pa_cons pe_int pa_nil)) (pg_name (i := 4) sc__law_ratio.nd rfl (.inl rfl)) (pss_one (ps_if (pt_cmpR op_ne (pv 3) pe_int (nomark _)) (pss_one (ps_par (i := 2) (j := 3) rfl sc__law_ratio.nd rfl rfl (by decide) rfl rfl (pa_cons (pv 3) (pa_cons (pe_op op_mod (pe_callTy call_int1 (by rfl) T.b_int (by decide +kernel) (pa_cons (pv 2) pa_nil)) (pv 3)) pa_nil)) rfl)) pss_nil)))
  (pss_one (ps_ret (pe_tup (pa_cons (pe_op op_fdivW (pv 0) (pv 2)) (pa_cons (pe_op op_fdivW (pv 1) (pv 2)) pa_nil)))))))), fun ds r hR => by
    cases hR with
    | @mk a b h0 h1 h2 =>
      have g : CDivW a (Int.gcd a b : Int) := gcd_small h1 (Int.lt_trans h2 (by decide +kernel))
      have fe : (rng 0 (400 : Int).toNat).foldl (fun p _ => euS p) (a, b) = euN 400 (a, b) := by rw [euN_fold, rng_len]; rfl
      exact .inl (show SD K E _ [.da (.int a), .da (.int b), .un, .un, .un] _ from (sd_seq (sd_set (ed_var rfl))
  (sd_seq (sd_set (ed_var rfl))
  (sd_seq (sd_for (S := fun p : Int × Int => [.da (.int a), .da (.int b), .da (.int p.1), .da (.int p.2), .un]) (step := fun p _ => euS p) (b0 := (a, b)) (f := .int) (xs := rng 0 (400 : Int).toNat) (it_rng1 (eda_cons ed_int eda_nil) (by decide) (by decide)) (by walk_at "le") (fun pre post x hx => ⟨_, gs_name, .inl (sd_if (et_cmp (ed_neI (ed_var rfl) ed_int)) (fun hb => (SD.weak (sd_par (eda_cons (ed_var rfl) (eda_cons (ed_mod (ed_cb (eda_cons (ed_var rfl) eda_nil) rc_int) (ed_var rfl) (by simp at hb; have := (euN_ok pre.length (a, b) ⟨h0, Int.le_of_lt h1⟩).1.2; rw [← euN_fold] at this; omega)) eda_nil))) (by have e := euS_nz (p := pre.foldl (fun p _ => euS p) (a, b)) (by simpa using hb); show Le [_, _, .da (.int (euS _).1), .da (.int (euS _).2), _] _; rw [e]; walk_at "le"))) (fun hb => (SD.weak sd_next (by have e := euS_zero (p := pre.foldl (fun p _ => euS p) (a, b)) (by simpa using hb); show Le [_, _, .da (.int (euS _).1), .da (.int (euS _).2), _] _; rw [e]; walk_at "le"))))⟩))
  (sd_ret (ED.to (ed_tup (eda_cons (ed_fdiv (ed_var rfl) (ed_var rfl) (by rw [fe, eu400 h0 h1 h2]; exact g)) (eda_cons (ed_fdiv (ed_var rfl) (ed_var rfl) (by rw [fe, eu400 h0 h1 h2]; exact g)) eda_nil))) (by rw [fe, eu400 h0 h1 h2]; exact div_ratio h1)))))))⟩
inductive R__law_flag : List PyData → Res → Prop
  | mk {f d} : R__law_flag [.bool f, .bool d] (.val (.bool (decide (f = d))))
theorem d__law_flag (T : Txt K mg) : DefOk P w K mg base "_law_flag" ["found", "due"] 1 R__law_flag :=
  T.d__law_flag.ok sc__law_flag (by decide) (by intro ds r h; cases h <;> rfl) fun f cdv Ar outer s H E hr => ⟨_, (pss_cons (ps_if (pt_val (pv 1)) (pss_one (ps_ret (pe_cmpR op_isBl (pv 0) pe_bl (nomark _)))) pss_nil)
  (pss_one (ps_ret (pe_cmpR op_isBl (pv 0) pe_bl (nomark _))))), fun ds r hR => by
    cases hR with
    | @mk f d =>
      exact .inl (show SD K E _ [.da (.bool f), .da (.bool d)] _ from (sd_ifs (et_val (ed_var rfl)) (fun hb => (sd_ret_seq (ED.to (ed_isB (ed_var rfl) ed_bl) (by rw [hb])))) (fun hb => (sd_nexts (sd_ret (ED.to (ed_isB (ed_var rfl) ed_bl) (by rw [hb])))))))⟩
theorem foldl_snoc {α β : Type} (f : α → β) : ∀ (xs : List α) (acc : List β), xs.foldl (fun ps x => ps ++ [f x]) acc = acc ++ xs.map f
  | [], acc => by simp
  | x :: xs, acc => by rw [List.foldl_cons, foldl_snoc f xs]; simp
theorem divInt_bd {a b : Int} (ha : 0 ≤ a) (hb : 0 < b) : 0 ≤ (Rat.divInt a b).num ∧ (Rat.divInt a b).num ≤ a ∧ ((Rat.divInt a b).den : Int) ≤ b := by
  have h := (div_ratio (a := a) hb)
  have h1 : a / (Int.gcd a b : Int) = (Rat.divInt a b).num := by injection h with h; injection h with h _; exact PyData.int.inj h
  have h2 : b / (Int.gcd a b : Int) = (Rat.divInt a b).den := by injection h with h; injection h with _ h; injection h with h _; exact PyData.int.inj h
  have g := Int.gcd_pos_of_ne_zero_right a (show b ≠ 0 by omega)
  rw [← h1, ← h2]
  exact ⟨Int.ediv_nonneg ha (by omega), Int.ediv_le_self _ ha, Int.ediv_le_self _ (Int.le_of_lt hb)⟩
theorem eqvQ (q : Rat) : PyData.eqv (encQ q) (encQ q) = true := SeqAt.eqv_refl _ rfl
/-- the sum as one fraction, unreduced -/
def unS (p : Int × Int) (q : Rat) : Int × Int := (p.1 * q.den + q.num * p.2, p.2 * q.den)
theorem unS_ok : ∀ (ps : List Rat) (p : Int × Int), 0 ≤ p.1 → 0 < p.2 → (∀ q ∈ ps, 0 ≤ q.num ∧ q.num < 60 ∧ (q.den : Int) ≤ 60) →
    0 ≤ (ps.foldl unS p).1 ∧ 0 < (ps.foldl unS p).2 ∧ (ps.foldl unS p).2 ≤ p.2 * 60 ^ ps.length ∧ Rat.divInt (ps.foldl unS p).1 (ps.foldl unS p).2 = ps.foldl (· + ·) (Rat.divInt p.1 p.2)
  | [], p, h0, h1, _ => ⟨h0, h1, by simp, rfl⟩
  | q :: ps, p, h0, h1, hq => by
    obtain ⟨a, b, c⟩ := hq q List.mem_cons_self
    have dq := den_pos q
    obtain ⟨e1, e2, e3, e4⟩ := unS_ok ps (unS p q) (Int.add_nonneg (Int.mul_nonneg h0 (Int.le_of_lt dq)) (Int.mul_nonneg a (Int.le_of_lt h1))) (Int.mul_pos h1 dq) fun x hx => hq x (List.mem_cons_of_mem _ hx)
    refine ⟨e1, e2, ?_, ?_⟩
    · refine Int.le_trans e3 ?_
      have h3 : p.2 * q.den ≤ p.2 * 60 := Int.mul_le_mul_of_nonneg_left c (Int.le_of_lt h1)
      have h4 : (0 : Int) ≤ 60 ^ ps.length := Int.pow_nonneg (by decide)
      have h5 := Int.mul_le_mul_of_nonneg_right h3 h4
      rw [List.length_cons, Int.pow_succ, Int.mul_comm (60 ^ ps.length), ← Int.mul_assoc]
      exact h5
    · rw [List.foldl_cons, List.foldl_cons, e4]
      congr 1
      have hz : (q.den : Int) ≠ 0 := by omega
      conv => rhs; rw [← Rat.num_divInt_den q]
      rw [Rat.divInt_add_divInt _ _ (by omega) hz]
      rfl
theorem sumR_comm : ∀ (ps : List Rat) (q : Rat), ps.foldl (· + ·) q = q + ps.foldl (· + ·) 0
  | [], q => by simp [Rat.add_zero]
  | p :: ps, q => by
    rw [List.foldl_cons, List.foldl_cons, sumR_comm ps (q + p), sumR_comm ps (0 + p), Rat.zero_add, Rat.add_assoc]
theorem sumR_rev (ps : List Rat) : ps.reverse.foldl (· + ·) 0 = ps.foldl (· + ·) 0 := by
  induction ps with
  | nil => rfl
  | cons p ps ih => rw [List.reverse_cons, List.foldl_append, ih]; show _ + p = ps.foldl (· + ·) (0 + p); rw [sumR_comm ps (0 + p), Rat.zero_add]; exact Rat.add_comm _ _
theorem shares (W : Int) (hW : 0 < W) : ∀ ws : List Int, (ws.map fun x => Rat.divInt x W).foldl (· + ·) 0 = Rat.divInt ws.sum W
  | [] => by simp
  | w :: ws => by
    rw [List.map_cons, List.foldl_cons, sumR_comm, Rat.zero_add, shares W hW ws, List.sum_cons, Rat.divInt_add_divInt _ _ (by omega) (by omega), ← Int.add_mul, Rat.divInt_mul_right (by omega)]
theorem sum_bd : ∀ ws : List Int, (∀ x ∈ ws, 0 ≤ x ∧ x < 60) → 0 ≤ ws.sum ∧ ws.sum ≤ 60 * ws.length
  | [], _ => by simp
  | w :: ws, h => by
    have h1 := h w List.mem_cons_self
    have h2 := sum_bd ws fun x hx => h x (List.mem_cons_of_mem _ hx)
    rw [List.sum_cons, List.length_cons]; omega
abbrev badL : List PyData := [.none, .tuple [.int 1], .tuple [.int 2, .int 4], .tuple [.int 0, .int 2], .tuple [.int 1, .int 0], .tuple [.int (0 - 1), .int 2], .list [.int 1, .int 2], .tuple [.bool true, .int 2], .tuple [.int 1, .int 2, .int 3], .tuple [.str "1", .int 2], .tuple [.int 3, .int (0 - 1)]]
theorem R_bad {d : PyData} (h : d ∈ badL) : R_is_ratio [d] (.val (.bool false)) := by
  have y : ∀ a b : Int, b < 2 ^ 8000 → (decide (0 ≤ a) && (decide (0 < b) && PyData.eqv (encQ (Rat.divInt a b)) (.tuple [.int a, .int b]))) = false → R_is_ratio [.tuple [.int a, .int b]] (.val (.bool false)) := fun a b h e => by
    rw [← e]; exact .yes h
  have big : (100 : Int) < 2 ^ 8000 := by decide +kernel
  simp only [List.mem_cons, List.not_mem_nil, or_false] at h
  rcases h with rfl | rfl | rfl | rfl | rfl | rfl | rfl | rfl | rfl | rfl | rfl
  · exact .no rfl rfl
  · exact .no rfl rfl
  · exact y 2 4 (by omega) (by decide +kernel)
  · exact y 0 2 (by omega) (by decide +kernel)
  · exact y 1 0 (by omega) (by decide +kernel)
  · exact y (0 - 1) 2 (by omega) (by decide +kernel)
  · exact .no rfl rfl
  · exact .no1 rfl rfl
  · exact .no rfl rfl
  · exact .no1 rfl rfl
  · exact y 3 (0 - 1) (by omega) (by decide +kernel)
theorem R_01 : R_is_ratio [.tuple [.int 0, .int 1]] (.val (.bool true)) := by
  have := R_is_ratio.yes (a := 0) (b := 1) (by decide +kernel)
  rw [show (decide ((0 : Int) ≤ 0) && (decide ((0 : Int) < 1) && PyData.eqv (encQ (Rat.divInt 0 1)) (.tuple [.int 0, .int 1]))) = true by decide +kernel] at this
  exact this
theorem R_71 : R_is_ratio [.tuple [.int 7, .int 1]] (.val (.bool true)) := by
  have := R_is_ratio.yes (a := 7) (b := 1) (by decide +kernel)
  rw [show (decide ((0 : Int) ≤ 7) && (decide ((0 : Int) < 1) && PyData.eqv (encQ (Rat.divInt 7 1)) (.tuple [.int 7, .int 1]))) = true by decide +kernel] at this
  exact this
theorem mulb {a b : Int} (h0 : 0 ≤ a) (h1 : a ≤ 60) (h2 : 0 ≤ b) (h3 : b ≤ 60) : 0 ≤ a * b ∧ a * b ≤ 3600 := ⟨Int.mul_nonneg h0 h2, Int.mul_le_mul h1 h3 h2 (by decide)⟩
theorem eqvT (qs : List Rat) : PyData.eqv (.tuple (qs.map encQ)) (.tuple (qs.map encQ)) = true := SeqAt.eqv_refl _ (SeqAt.canLay_of_shaped (shaped_tupm (n := 1) (fun q => ⟨rfl, Nat.le_refl _⟩) (by decide) qs))
theorem tf_told (qs : List Rat) : (!PyData.eqv (.tuple (qs.map encQ)) (.tuple (qs.map encQ)) || !PyData.eqv (encQ 1) (.tuple [.int 1, .int 1])) = false := by rw [eqvT]; decide +kernel
def prt (dg : List Int) (k : Int) : Rat := Rat.divInt (dg.getD (1 + 2 * k).toNat 0) (1 + dg.getD (2 + 2 * k).toNat 0)
inductive R_law : List PyData → Res → Prop
  | mk {ns : List Int} : R_law [scr ns] (.val (.bool true))
theorem law_sp {K : PySem.W.Frag} {H : Hp} {a : Addr} {ns : List Int} (hl : ns.length ≤ 63) (hS : SqL K H a (ns.map V.int)) : spD K R_law [.ref a] H (fun v _ => v = .bl true) fun _ _ _ => False := law_sp_of .mk hS
theorem dgs (dg : List Int) (h : ∀ x ∈ dg, 0 ≤ x ∧ x < 60) (j : Nat) : 0 ≤ dg.getD j 0 ∧ dg.getD j 0 < 60 := by
  rw [List.getD_eq_getElem?_getD]
  cases e : dg[j]? with
  | none => exact ⟨by simp, by simp⟩
  | some x => exact h x (List.mem_of_getElem? e)
theorem prt_bd {dg : List Int} (h : ∀ x ∈ dg, 0 ≤ x ∧ x < 60) (k : Int) : 0 ≤ (prt dg k).num ∧ (prt dg k).num < 60 ∧ ((prt dg k).den : Int) ≤ 60 := by
  have h1 := dgs dg h (1 + 2 * k).toNat
  have h2 := dgs dg h (2 + 2 * k).toNat
  have h3 := divInt_bd (a := dg.getD (1 + 2 * k).toNat 0) (b := 1 + dg.getD (2 + 2 * k).toNat 0) h1.1 (by omega)
  unfold prt
  omega
theorem d_law (T : Txt K mg) (h__law_at : DefOk P w K mg base "_law_at" ["script", "k"] 1 R__law_at) (h__law_flag : DefOk P w K mg base "_law_flag" ["found", "due"] 1 R__law_flag) (h__law_ratio : DefOk P w K mg base "_law_ratio" ["one", "other"] 1 R__law_ratio) (h__law_row : DefOk P w K mg base "_law_row" ["cell", "many", "top"] 2 R__law_row) (h_is_more : DefOk P w K mg base "is_more" ["one", "other"] 1 R_is_more) (h_is_ratio : DefOk P w K mg base "is_ratio" ["thing"] 3 R_is_ratio) (h_plus : DefOk P w K mg base "plus" ["one", "other"] 3 R_plus) (h_ratio : DefOk P w K mg base "ratio" ["over", "under"] 2 R_ratio) (h_shared : DefOk P w K mg base "shared" ["weights"] 3 R_shared) (h_times : DefOk P w K mg base "times" ["one", "other"] 3 R_times) (h_total : DefOk P w K mg base "total" ["ratios"] 4 R_total) {fl : Addr} {fdl : FuncData} (F : Fun K "law" "law" st_law fl fdl) : FnOk P w K mg base (L2.CX P w) 5 fl fdl ["script"] (spD K R_law) :=
  okF F sc_law (by decide) (by intro ds r h; cases h <;> rfl) fun f cdv Ar outer s H E hr => ⟨_, (pss_cons (ps_set (i := 1) sc_law.nd rfl (.inl rfl) (pe_callD h__law_row (hr.mono (by decide)) (by rfl) passL (pa_cons (pe_callD h__law_at (hr.mono (by decide)) (by rfl) passL (pa_cons (pv 0) (pa_cons pe_int pa_nil))) (pa_cons pe_int (pa_cons pe_int pa_nil)))))
  (pss_cons (ps_set (i := 2) sc_law.nd rfl (.inl rfl) (pe_lst pa_nil))
  (pss_cons (ps_for PW0 rfl (pi_range1 (by rfl) T.b_range (pa_cons (pe_op op_add pe_int (pe_op op_mod (pe_ix (k_ixL (K := K)) (pv 1) pe_int (fun _ _ => rfl)) pe_int)) pa_nil)) (pg_name (i := 3) sc_law.nd rfl (.inl rfl)) (pss_cons (ps_set (i := 4) sc_law.nd rfl (.inl rfl) (pe_callD h_ratio (hr.mono (by decide)) (by rfl) passL (pa_cons (pe_ix (k_ixL (K := K)) (pv 1) (pe_op op_add pe_int (pe_op op_mul pe_int (pv 3))) (fun _ _ => rfl)) (pa_cons (pe_op op_add pe_int (pe_ix (k_ixL (K := K)) (pv 1) (pe_op op_add pe_int (pe_op op_mul pe_int (pv 3))) (fun _ _ => rfl))) pa_nil))))
  (pss_cons (ps_if (PW.pt (pw_or (pt_cmpR (k_neD hr.units (K := K)) (pv 4) (pe_callD h__law_ratio (hr.mono (by decide)) (by rfl) passL (pa_cons (pe_ix (k_ixL (K := K)) (pv 1) (pe_op op_add pe_int (pe_op op_mul pe_int (pv 3))) (fun _ _ => rfl)) (pa_cons (pe_op op_add pe_int (pe_ix (k_ixL (K := K)) (pv 1) (pe_op op_add pe_int (pe_op op_mul pe_int (pv 3))) (fun _ _ => rfl))) pa_nil))) (nomark _)) (pw_or1 (pt_cmpR op_notBl (pe_callD h_is_ratio (hr.mono (by decide)) (by rfl) passL (pa_cons (pv 4) pa_nil)) pe_bl (nomark _))))) (pss_one (ps_ret pe_bl)) pss_nil)
  (pss_one (ps_expr (pe_bm PySem.F.plainAttrs_list PySem.F.slot_list_append PySem.F.type_list_append mt_append (pv 2) (pa_cons (pv 4) pa_nil)))))))
  (pss_cons (ps_set (i := 5) sc_law.nd rfl (.inl rfl) pe_int)
  (pss_cons (ps_set (i := 6) sc_law.nd rfl (.inl rfl) pe_int)
  (pss_cons (ps_for PW0 rfl (k_list (K := K) (pv 2)) (pg_name (i := 4) sc_law.nd rfl (.inl rfl)) (pss_cons (ps_set (i := 5) sc_law.nd rfl (.inl rfl) (pe_op op_add (pe_op op_mul (pv 5) (pe_ix (k_ixT (K := K)) (pv 4) pe_int (fun _ _ => rfl))) (pe_op op_mul (pe_ix (k_ixT (K := K)) (pv 4) pe_int (fun _ _ => rfl)) (pv 6))))
  (pss_one (ps_set (i := 6) sc_law.nd rfl (.inl rfl) (pe_op op_mul (pv 6) (pe_ix (k_ixT (K := K)) (pv 4) pe_int (fun _ _ => rfl)))))))
  (pss_cons (ps_if (PW.pt (pw_or (pt_cmpR (k_neD hr.units (K := K)) (pe_callD h_total (hr.mono (by decide)) (by rfl) passL (pa_cons (pv 2) pa_nil)) (pe_callD h__law_ratio (hr.mono (by decide)) (by rfl) passL (pa_cons (pv 5) (pa_cons (pv 6) pa_nil))) (nomark _)) (pw_or (pt_cmpR (k_neD hr.units (K := K)) (pe_callD h_total (hr.mono (by decide)) (by rfl) passL (pa_cons (k_rev (K := K) (pv 2)) pa_nil)) (pe_callD h_total (hr.mono (by decide)) (by rfl) passL (pa_cons (pv 2) pa_nil)) (nomark _)) (pw_or1 (pt_cmpR (k_neD hr.units (K := K)) (pe_callD h_total (hr.mono (by decide)) (by rfl) passL (pa_cons (pe_lst pa_nil) pa_nil)) (pe_tup (pa_cons pe_int (pa_cons pe_int pa_nil))) (nomark _)))))) (pss_one (ps_ret pe_bl)) pss_nil)
  (pss_cons (ps_for PW0 rfl (k_list (K := K) (pv 2)) (pg_name (i := 7) sc_law.nd rfl (.inl rfl)) (pss_one (ps_for PW0 rfl (k_list (K := K) (pv 2)) (pg_name (i := 8) sc_law.nd rfl (.inl rfl)) (pss_cons (ps_if (pt_cmpR (k_neD hr.units (K := K)) (pe_callD h_plus (hr.mono (by decide)) (by rfl) passL (pa_cons (pv 7) (pa_cons (pv 8) pa_nil))) (pe_callD h__law_ratio (hr.mono (by decide)) (by rfl) passL (pa_cons (pe_op op_add (pe_op op_mul (pe_ix (k_ixT (K := K)) (pv 7) pe_int (fun _ _ => rfl)) (pe_ix (k_ixT (K := K)) (pv 8) pe_int (fun _ _ => rfl))) (pe_op op_mul (pe_ix (k_ixT (K := K)) (pv 8) pe_int (fun _ _ => rfl)) (pe_ix (k_ixT (K := K)) (pv 7) pe_int (fun _ _ => rfl)))) (pa_cons (pe_op op_mul (pe_ix (k_ixT (K := K)) (pv 7) pe_int (fun _ _ => rfl)) (pe_ix (k_ixT (K := K)) (pv 8) pe_int (fun _ _ => rfl))) pa_nil))) (nomark _)) (pss_one (ps_ret pe_bl)) pss_nil)
  (pss_cons (ps_if (pt_cmpR (k_neD hr.units (K := K)) (pe_callD h_times (hr.mono (by decide)) (by rfl) passL (pa_cons (pv 7) (pa_cons (pv 8) pa_nil))) (pe_callD h__law_ratio (hr.mono (by decide)) (by rfl) passL (pa_cons (pe_op op_mul (pe_ix (k_ixT (K := K)) (pv 7) pe_int (fun _ _ => rfl)) (pe_ix (k_ixT (K := K)) (pv 8) pe_int (fun _ _ => rfl))) (pa_cons (pe_op op_mul (pe_ix (k_ixT (K := K)) (pv 7) pe_int (fun _ _ => rfl)) (pe_ix (k_ixT (K := K)) (pv 8) pe_int (fun _ _ => rfl))) pa_nil))) (nomark _)) (pss_one (ps_ret pe_bl)) pss_nil)
  (pss_one (ps_if (pt_not (pt_val (pe_callD h__law_flag (hr.mono (by decide)) (by rfl) passL (pa_cons (pe_callD h_is_more (hr.mono (by decide)) (by rfl) passL (pa_cons (pv 7) (pa_cons (pv 8) pa_nil))) (pa_cons (pe_cmpR op_gt (pe_op op_mul (pe_ix (k_ixT (K := K)) (pv 7) pe_int (fun _ _ => rfl)) (pe_ix (k_ixT (K := K)) (pv 8) pe_int (fun _ _ => rfl))) (pe_op op_mul (pe_ix (k_ixT (K := K)) (pv 8) pe_int (fun _ _ => rfl)) (pe_ix (k_ixT (K := K)) (pv 7) pe_int (fun _ _ => rfl))) (nomark _)) pa_nil))))) (pss_one (ps_ret pe_bl)) pss_nil)))))))
  (pss_cons (ps_set (i := 9) sc_law.nd rfl (.inr rfl) (pe_op op_cat (pe_callTy (k_listOf (K := K)) (by rfl) T.b_list (by decide +kernel) (pa_cons (pe_slice (k_slL (K := K)) (pv 1) (po_some pe_int) (po_some (pe_op op_add pe_int (pe_callB (k_len (K := K)) (by rfl) T.b_len PySem.boot_len (pa_cons (pv 2) pa_nil))))) pa_nil)) (pe_lst (pa_cons pe_int pa_nil))))
  (pss_cons (ps_set (i := 10) sc_law.nd rfl (.inl rfl) (pe_callD h_shared (hr.mono (by decide)) (by rfl) passL (pa_cons (pv 9) pa_nil)))
  (pss_cons (ps_if (PW.pt (pw_or (pt_cmpR (k_neD hr.units (K := K)) (pv 10) (pe_callTy (k_tupOf (K := K)) (by rfl) T.b_tuple (by decide +kernel) (pa_cons (pe_lc (own := [("one", 7)]) (g := (gName 7)) (tt := tYes) rfl sc_law.nd (k_list (K := K) (pv 9)) (blkOk_by (N := N_law) (sc := defScope st_law) (by decide +kernel)) (fun _ _ _ _ _ => (pg_name (i := 7) sc_law.nd rfl (.inl rfl))) (fun _ _ _ _ _ => pts_nil) (fun _ _ _ _ _ => (pe_callD h__law_ratio (hr.mono (by decide)) (by rfl) passL (pa_cons (pv 7) (pa_cons (pe_callB (k_sum (K := K)) (by rfl) T.b_sum (by decide +kernel) (pa_cons (pv 9) pa_nil)) pa_nil))))) pa_nil)) (nomark _)) (pw_or1 (pt_cmpR (k_neD hr.units (K := K)) (pe_callD h_total (hr.mono (by decide)) (by rfl) passL (pa_cons (pe_callTy (k_listOf (K := K)) (by rfl) T.b_list (by decide +kernel) (pa_cons (pv 10) pa_nil)) pa_nil)) (pe_tup (pa_cons pe_int (pa_cons pe_int pa_nil))) (nomark _))))) (pss_one (ps_ret pe_bl)) pss_nil)
  (pss_cons (ps_set (i := 11) sc_law.nd rfl (.inl rfl) (pe_lst (pa_cons pe_non (pa_cons (pe_tup (pa_cons pe_int pa_nil)) (pa_cons (pe_tup (pa_cons pe_int (pa_cons pe_int pa_nil))) (pa_cons (pe_tup (pa_cons pe_int (pa_cons pe_int pa_nil))) (pa_cons (pe_tup (pa_cons pe_int (pa_cons pe_int pa_nil))) (pa_cons (pe_tup (pa_cons (pe_op op_sub pe_int pe_int) (pa_cons pe_int pa_nil))) (pa_cons (pe_lst (pa_cons pe_int (pa_cons pe_int pa_nil))) (pa_cons (pe_tup (pa_cons pe_bl (pa_cons pe_int pa_nil))) (pa_cons (pe_tup (pa_cons pe_int (pa_cons pe_int (pa_cons pe_int pa_nil)))) (pa_cons (pe_tup (pa_cons pe_str (pa_cons pe_int pa_nil))) (pa_cons (pe_tup (pa_cons pe_int (pa_cons (pe_op op_sub pe_int pe_int) pa_nil))) pa_nil)))))))))))))
  (pss_one (ps_ret (pe_and (pe_callB (k_all (K := K)) (by rfl) T.b_all (by decide +kernel) (pa_cons (pe_lc (own := [("thing", 12)]) (g := (gName 12)) (tt := tYes) rfl sc_law.nd (k_list (K := K) (pv 11)) (blkOk_by (N := N_law) (sc := defScope st_law) (by decide +kernel)) (fun _ _ _ _ _ => (pg_name (i := 12) sc_law.nd rfl (.inl rfl))) (fun _ _ _ _ _ => pts_nil) (fun _ _ _ _ _ => (pe_cmpR op_isBl (pe_callD h_is_ratio (hr.mono (by decide)) (by rfl) passL (pa_cons (pv 12) pa_nil)) pe_bl (nomark _)))) pa_nil)) (pe_and (pe_cmpR op_isBl (pe_callD h_is_ratio (hr.mono (by decide)) (by rfl) passL (pa_cons (pe_tup (pa_cons pe_int (pa_cons pe_int pa_nil))) pa_nil)) pe_bl (nomark _)) (pe_one (pe_cmpR op_isBl (pe_callD h_is_ratio (hr.mono (by decide)) (by rfl) passL (pa_cons (pe_tup (pa_cons pe_int (pa_cons pe_int pa_nil))) pa_nil)) pe_bl (nomark _))))))))))))))))))), fun ds r hR => by
    cases hR with
    | @mk ns =>
      generalize hdg : lawRow (lawAt ns ((0 : Nat))) 17 60 = dg
      have hl : dg.length = 17 := by rw [← hdg, lawRow_len]; rfl
      have hi : ∀ x ∈ dg, 0 ≤ x ∧ x < 60 := by rw [← hdg]; exact lawRow_in (by decide)
      have hj := dgs dg hi
      have hn : (1 + dg.getD (0 : Int).toNat 0 % 8).toNat ≤ 8 := by omega
      have hk : ∀ (pre post : List Int) (x : Int), rng 0 (1 + dg.getD (0 : Int).toNat 0 % 8).toNat = pre ++ x :: post → (0 ≤ x ∧ x < 8) ∧ pre.length < 8 := fun pre post x e => by have := rng_at e; omega
      generalize hps : (rng 0 (1 + dg.getD (0 : Int).toNat 0 % 8).toNat).map (prt dg) = ps
      have hfs : (rng 0 (1 + dg.getD (0 : Int).toNat 0 % 8).toNat).foldl (fun ps k => ps ++ [prt dg k]) [] = ps := by rw [foldl_snoc, hps]; rfl
      have hpl : ps.length ≤ 8 := by rw [← hps, List.length_map, rng_len]; exact hn
      have hpb : ∀ q ∈ ps, 0 ≤ q.num ∧ q.num < 60 ∧ (q.den : Int) ≤ 60 := fun q hq => by rw [← hps, List.mem_map] at hq; obtain ⟨k, _, rfl⟩ := hq; exact prt_bd hi k
      have hpp : ∀ q ∈ ps, 0 ≤ q.num ∧ q.num < 2 ^ 60 ∧ (q.den : Int) < 2 ^ 60 := fun q hq => by have := hpb q hq; omega
      obtain ⟨u1, u2, u3, u4⟩ := unS_ok ps (0, 1) (Int.le_refl 0) (by decide) hpb
      have u5 : (ps.foldl unS (0, 1)).2 < 2 ^ 200 := by
        have h1 : (60 : Int) ^ ps.length ≤ 60 ^ 8 := by exact_mod_cast Nat.pow_le_pow_right (n := 60) (by decide) hpl
        have h2 : _ ≤ 1 * (60 : Int) ^ ps.length := u3
        rw [Int.one_mul] at h2
        exact Int.lt_of_le_of_lt (Int.le_trans h2 h1) (by decide +kernel)
      have u6 : Rat.divInt (ps.foldl unS (0, 1)).1 (ps.foldl unS (0, 1)).2 = ps.foldl (· + ·) 0 := u4
      generalize hws : cutD dg (some 1) (some (1 + (ps.length : Int))) ++ [1] = ws
      have hwl : ws.length ≤ 18 := by rw [← hws, List.length_append]; have := cut_len dg (some 1) (some (1 + (ps.length : Int))); simp; omega
      have hwi : ∀ x ∈ ws, 0 ≤ x ∧ x < 60 := fun x hx => by rw [← hws, List.mem_append] at hx; rcases hx with hx | hx; (· exact hi x (List.mem_of_mem_drop (List.mem_of_mem_take hx))); (· rw [List.mem_singleton.mp hx]; decide)
      have hwp : 0 < ws.sum := by rw [← hws, List.sum_append]; have h1 := sum_bd (cutD dg (some 1) (some (1 + (ps.length : Int)))) (fun x hx => hi x (List.mem_of_mem_drop (List.mem_of_mem_take hx))); simp; omega
      have hws2 := sum_bd ws hwi
      have htw : ∀ q ∈ ws.map (fun x => Rat.divInt x ws.sum), 0 ≤ q.num ∧ q.num < 2 ^ 60 ∧ (q.den : Int) < 2 ^ 60 := fun q hq => by rw [List.mem_map] at hq; obtain ⟨x, hx, rfl⟩ := hq; have h1 := divInt_bd (a := x) (b := ws.sum) (hwi x hx).1 hwp; have h2 := hwi x hx; omega
      have hs1 : (ws.map fun x => Rat.divInt x ws.sum).foldl (· + ·) 0 = 1 := by rw [shares _ hwp, Rat.divInt_self' (by omega)]
      exact .inl (show SD K E _ [.da (scr ns), .un, .un, .un, .un, .un, .un, .un, .un, .un, .un, .un, .un] _ from (sd_seq (sd_set (ed_call (eda_cons (ed_call (eda_cons (ed_var rfl) (eda_cons ed_int eda_nil)) (R__law_at.mk (k := 0))) (eda_cons ed_int (eda_cons ed_int eda_nil))) (hdg ▸ R__law_row.mk (by decide) (by decide) (by decide) (by decide))))
  (sd_seq (sd_new eda_nil (by simp))
  (sd_seq (SD.to (sd_for (S := fun qs : List Rat => [.da (scr ns), .da (.list (dg.map .int)), .ml (qs.map encQ), .un, .un, .un, .un, .un, .un, .un, .un, .un, .un]) (step := fun qs k => qs ++ [prt dg k]) (b0 := []) (f := .int) (xs := rng 0 (1 + dg.getD (0 : Int).toNat 0 % 8).toNat) (it_rng1 (eda_cons (ed_add ed_int (ed_mod (ed_ixLi (ed_var rfl) ed_int (by decide) (by rw [hl]; decide)) ed_int (by decide))) eda_nil) (by omega) (by omega)) (by walk_at "le") (fun pre post x hx => ⟨_, gs_name, .inl (sd_seq (sd_set (ed_call (eda_cons (ed_ixLi (ed_var rfl) (ed_add ed_int (ed_mul ed_int (ed_var rfl) (by exact .inl (by decide)))) (by have := hk _ _ _ hx; omega) (by have := hk _ _ _ hx; rw [hl]; omega)) (eda_cons (ed_add ed_int (ed_ixLi (ed_var rfl) (ed_add ed_int (ed_mul ed_int (ed_var rfl) (by exact .inl (by decide)))) (by have := hk _ _ _ hx; omega) (by have := hk _ _ _ hx; rw [hl]; omega))) eda_nil)) (R_ratio.mk (by exact (hj _).1) (by have := hj (2 + 2 * x).toNat; omega) (by have := hj (2 + 2 * x).toNat; exact Int.lt_trans (show _ < (100 : Int) by omega) (by decide +kernel)))))
  (sd_ifs (b := false) (ET.to (et_or (et_cmp (ed_neD (ed_var rfl) (ed_call (eda_cons (ed_ixLi (ed_var rfl) (ed_add ed_int (ed_mul ed_int (ed_var rfl) (by exact .inl (by decide)))) (by have := hk _ _ _ hx; omega) (by have := hk _ _ _ hx; rw [hl]; omega)) (eda_cons (ed_add ed_int (ed_ixLi (ed_var rfl) (ed_add ed_int (ed_mul ed_int (ed_var rfl) (by exact .inl (by decide)))) (by have := hk _ _ _ hx; omega) (by have := hk _ _ _ hx; rw [hl]; omega))) eda_nil)) (R__law_ratio.mk (by exact (hj _).1) (by have := hj (2 + 2 * x).toNat; omega) (by have := hj (2 + 2 * x).toNat; exact Int.lt_trans (show _ < (100 : Int) by omega) (by decide +kernel)))) (by rfl) (by rfl))) (fun hb => (et_cmp (ed_notB (ed_call (eda_cons (ed_var rfl) eda_nil) (R_is_ratio.mk (prt_bd hi x).1 (Int.lt_trans (Int.lt_of_le_of_lt (prt_bd hi x).2.2 (show (60 : Int) < 100 by decide)) (by decide +kernel)))) ed_bl)))) (by simp [eqvQ])) (fun hb => Bool.noConfusion hb) (fun hb => (sd_nexts (SD.weak (sd_append rfl (ed_var rfl) (by rw [List.length_map, foldl_snoc]; have := hk _ _ _ hx; show _ ≤ 1000000; simp; omega)) (by walk_at "le"))))))⟩)) (congrArg (fun z => Out.nx ((fun qs : List Rat => [.da (scr ns), .da (.list (dg.map .int)), .ml (qs.map encQ), .un, .un, .un, .un, .un, .un, .un, .un, .un, .un]) z)) hfs))
  (sd_seq (sd_set ed_int)
  (sd_seq (sd_set ed_int)
  (sd_freeze 2 rfl (sd_seq (sd_for (S := fun p : Int × Int => [.da (scr ns), .da (.list (dg.map .int)), .da (.list (ps.map encQ)), .un, .un, .da (.int p.1), .da (.int p.2), .un, .un, .un, .un, .un, .un]) (step := unS) (b0 := (0, 1)) (f := encQ) (xs := ps) (it_list (ed_var rfl)) (by walk_at "le") (fun pre post x hx => ⟨_, gs_name, .inl (sd_seq (sd_set (ed_add (ed_mul (ed_var rfl) (ed_ixT (ed_var rfl) ed_int rfl rfl) (by have := hpb x (by rw [hx]; simp); exact .inr (by omega))) (ed_mul (ed_ixT (ed_var rfl) ed_int rfl rfl) (ed_var rfl) (by have := hpb x (by rw [hx]; simp); exact .inl (by omega)))))
  (SD.weak (sd_set (ed_mul (ed_var rfl) (ed_ixT (ed_var rfl) ed_int rfl rfl) (by have := hpb x (by rw [hx]; simp); exact .inr (by omega)))) (by walk_at "le")))⟩))
  (sd_ifs (b := false) (ET.to (et_or (et_cmp (ed_neD (ed_call (eda_cons (ed_var rfl) eda_nil) (R_total.mk (by omega) hpp)) (ed_call (eda_cons (ed_var rfl) (eda_cons (ed_var rfl) eda_nil)) (R__law_ratio.mk (by exact u1) (by exact u2) (by exact u5))) (by rfl) (by rfl))) (fun hb => (et_or (et_cmp (ed_neD (ed_call (eda_cons (ed_revm (ed_var rfl)) eda_nil) (R_total.mk (by simp; omega) (by intro p h; exact hpp p (List.mem_reverse.mp h)))) (ed_call (eda_cons (ed_var rfl) eda_nil) (R_total.mk (by omega) hpp)) (by rfl) (by rfl))) (fun hb => (et_cmp (ed_neD (ed_call (eda_cons (ed_lst eda_nil) eda_nil) (R_total.mk (ps := []) (by simp) (by simp))) (ed_tup (eda_cons ed_int (eda_cons ed_int eda_nil))) (by rfl) (by rfl))))))) (by rw [u6, sumR_rev]; simp [eqvQ]; exact eqvQ 0)) (fun hb => Bool.noConfusion hb) (fun hb => (sd_nexts (sd_seq (sd_for (S := fun _ : Unit => [.da (scr ns), .da (.list (dg.map .int)), .da (.list (ps.map encQ)), .un, .un, .un, .un, .un, .un, .un, .un, .un, .un]) (step := fun _ _ => ()) (b0 := ()) (f := encQ) (xs := ps) (it_list (ed_var rfl)) (by walk_at "le") (fun pre post x hx => ⟨_, gs_name, .inl (SD.weak (sd_for (S := fun _ : Unit => [.da (scr ns), .da (.list (dg.map .int)), .da (.list (ps.map encQ)), .un, .un, .un, .un, .da (encQ x), .un, .un, .un, .un, .un]) (step := fun _ _ => ()) (b0 := ()) (f := encQ) (xs := ps) (it_list (ed_var rfl)) (by walk_at "le") (fun pre1 post1 x1 hx1 => ⟨_, gs_name, .inl (sd_ifs (b := false) (ET.to (et_cmp (ed_neD (ed_call (eda_cons (ed_var rfl) (eda_cons (ed_var rfl) eda_nil)) (R_plus.mk (hpb x (by rw [hx]; simp)).1 (hpp x1 (by rw [hx1]; simp)).1 (hpp x1 (by rw [hx1]; simp)).2.1 (hpp x1 (by rw [hx1]; simp)).2.2 (Int.lt_trans (hpp x (by rw [hx]; simp)).2.2 (by decide +kernel)))) (ed_call (eda_cons (ed_add (ed_mul (ed_ixT (ed_var rfl) ed_int rfl rfl) (ed_ixT (ed_var rfl) ed_int rfl rfl) (by have := hpb x1 (by rw [hx1]; simp); have := hpb x (by rw [hx]; simp); exact .inr (by omega))) (ed_mul (ed_ixT (ed_var rfl) ed_int rfl rfl) (ed_ixT (ed_var rfl) ed_int rfl rfl) (by have := hpb x1 (by rw [hx1]; simp); exact .inl (by omega)))) (eda_cons (ed_mul (ed_ixT (ed_var rfl) ed_int rfl rfl) (ed_ixT (ed_var rfl) ed_int rfl rfl) (by have := hpb x1 (by rw [hx1]; simp); exact .inr (by omega))) eda_nil)) (R__law_ratio.mk (by have a := hpb x (by rw [hx]; simp); have b := hpb x1 (by rw [hx1]; simp); exact Int.add_nonneg (Int.mul_nonneg a.1 (Int.le_of_lt (den_pos x1))) (Int.mul_nonneg b.1 (Int.le_of_lt (den_pos x)))) (by exact Int.mul_pos (den_pos x) (den_pos x1)) (by have a := hpb x (by rw [hx]; simp); have b := hpb x1 (by rw [hx1]; simp); exact Int.lt_of_le_of_lt (mulb (Int.le_of_lt (den_pos x)) a.2.2 (Int.le_of_lt (den_pos x1)) b.2.2).2 (by decide +kernel)))) (by rfl) (by rfl))) (by simp [plus_eq, eqvQ])) (fun hb => Bool.noConfusion hb) (fun hb => (sd_nexts (sd_ifs (b := false) (ET.to (et_cmp (ed_neD (ed_call (eda_cons (ed_var rfl) (eda_cons (ed_var rfl) eda_nil)) (R_times.mk ⟨(hpb x (by rw [hx]; simp)).1, Int.lt_trans (hpp x (by rw [hx]; simp)).2.2 (by decide +kernel)⟩ ⟨(hpp x1 (by rw [hx1]; simp)).1, (hpp x1 (by rw [hx1]; simp)).2.1⟩ (hpp x1 (by rw [hx1]; simp)).2.2)) (ed_call (eda_cons (ed_mul (ed_ixT (ed_var rfl) ed_int rfl rfl) (ed_ixT (ed_var rfl) ed_int rfl rfl) (by have := hpb x1 (by rw [hx1]; simp); exact .inr (by omega))) (eda_cons (ed_mul (ed_ixT (ed_var rfl) ed_int rfl rfl) (ed_ixT (ed_var rfl) ed_int rfl rfl) (by have := hpb x1 (by rw [hx1]; simp); exact .inr (by omega))) eda_nil)) (R__law_ratio.mk (by have a := hpb x (by rw [hx]; simp); have b := hpb x1 (by rw [hx1]; simp); exact Int.mul_nonneg a.1 b.1) (by exact Int.mul_pos (den_pos x) (den_pos x1)) (by have a := hpb x (by rw [hx]; simp); have b := hpb x1 (by rw [hx1]; simp); exact Int.lt_of_le_of_lt (mulb (Int.le_of_lt (den_pos x)) a.2.2 (Int.le_of_lt (den_pos x1)) b.2.2).2 (by decide +kernel)))) (by rfl) (by rfl))) (by simp [times_eq, eqvQ])) (fun hb => Bool.noConfusion hb) (fun hb => (sd_nexts (SD.weak (sd_if (b := false) (ET.to (et_not (et_val (ed_call (eda_cons (ed_call (eda_cons (ed_var rfl) (eda_cons (ed_var rfl) eda_nil)) (R_is_more.mk ⟨(hpp x1 (by rw [hx1]; simp)).1, (hpp x1 (by rw [hx1]; simp)).2.1⟩ (hpp x1 (by rw [hx1]; simp)).2.2)) (eda_cons (ed_gt (ed_mul (ed_ixT (ed_var rfl) ed_int rfl rfl) (ed_ixT (ed_var rfl) ed_int rfl rfl) (by have := hpb x1 (by rw [hx1]; simp); exact .inr (by omega))) (ed_mul (ed_ixT (ed_var rfl) ed_int rfl rfl) (ed_ixT (ed_var rfl) ed_int rfl rfl) (by have := hpb x1 (by rw [hx1]; simp); exact .inl (by omega)))) eda_nil)) (R__law_flag.mk)))) (by simp)) (fun hb => Bool.noConfusion hb) (fun hb => sd_next)) (by walk_at "le"))))))))⟩)) (by walk_at "le"))⟩))
  (sd_seq (sd_set (ED.to (ed_catL (ed_cb (eda_cons (ed_slL (ed_var rfl) (edo_some ed_int) (edo_some (ed_add ed_int (ed_cb (eda_cons (ed_var rfl) eda_nil) rc_lenL)))) eda_nil) rc_list_l) (ed_lst (eda_cons ed_int eda_nil)) (by have := cut_len (dg.map PyData.int) (some 1) (some (1 + ((ps.map encQ).length : Int))); simp only [List.length_map] at this; simp only [List.length_append, List.length_map, List.length_singleton]; show _ ≤ 1000000; omega)) (by rw [cutD_map, List.length_map, ← hws, List.map_append]; rfl)))
  (sd_seq (sd_set (ed_call (eda_cons (ed_var rfl) eda_nil) (R_shared.mk (by omega) (fun x hx => (hwi x hx).1) ⟨hwp, by omega⟩)))
  (sd_ifs (b := false) (ET.to (et_or (et_cmp (ed_neD (ed_var rfl) (ed_cb (eda_cons (ed_lc_map (xs := ws) (f := .int) (h := fun x => encQ (Rat.divInt x ws.sum)) (it_list (ed_var rfl)) (by show _ ≤ 1000000; omega) (fun x hx => ⟨_, (gd_name (by decide)), ((ed_call (eda_cons (ed_var rfl) (eda_cons (ed_cb (eda_cons (ed_var rfl) eda_nil) rc_sum) eda_nil)) (R__law_ratio.mk (by exact (hwi x hx).1) (by exact hwp) (by exact Int.lt_of_le_of_lt hws2.2 (Int.lt_of_le_of_lt (show _ ≤ (60 * 18 : Int) by omega) (by decide +kernel)))))).to (by walk_at "side" /-lce71-/)⟩)) eda_nil) rc_tuple_l) (by exact shaped_tupm (n := 1) (fun q => ⟨rfl, Nat.le_refl _⟩) (by decide) _) (by exact shaped_tupm (n := 1) (fun q => ⟨rfl, Nat.le_refl _⟩) (by decide) _))) (fun hb => (et_cmp (ed_neD (ed_call (eda_cons (ed_cb (eda_cons (ed_var rfl) eda_nil) rc_list_t) eda_nil) (R_total.mk (by simp; omega) htw)) (ed_tup (eda_cons ed_int (eda_cons ed_int eda_nil))) (by rfl) (by rfl))))) (by have e := tf_told (ws.map fun x => Rat.divInt x ws.sum); rw [hs1]; rw [List.map_map] at e ⊢; exact e)) (fun hb => Bool.noConfusion hb) (fun hb => (sd_nexts (sd_seq (sd_set (ed_lst (eda_cons ed_non (eda_cons (ed_tup (eda_cons ed_int eda_nil)) (eda_cons (ed_tup (eda_cons ed_int (eda_cons ed_int eda_nil))) (eda_cons (ed_tup (eda_cons ed_int (eda_cons ed_int eda_nil))) (eda_cons (ed_tup (eda_cons ed_int (eda_cons ed_int eda_nil))) (eda_cons (ed_tup (eda_cons (ed_sub ed_int ed_int) (eda_cons ed_int eda_nil))) (eda_cons (ed_lst (eda_cons ed_int (eda_cons ed_int eda_nil))) (eda_cons (ed_tup (eda_cons ed_bl (eda_cons ed_int eda_nil))) (eda_cons (ed_tup (eda_cons ed_int (eda_cons ed_int (eda_cons ed_int eda_nil)))) (eda_cons (ed_tup (eda_cons ed_str (eda_cons ed_int eda_nil))) (eda_cons (ed_tup (eda_cons ed_int (eda_cons (ed_sub ed_int ed_int) eda_nil))) eda_nil)))))))))))))
  (sd_ret (ED.to (ed_and (ed_cb (eda_cons (ed_lc_map (xs := badL) (f := id) (h := fun _ => .bool true) (it_list (ed_var rfl)) (by decide) (fun x hx => ⟨_, (gd_name (by decide)), ((ed_isB (ed_call (eda_cons (ed_var rfl) eda_nil) (R_bad hx)) ed_bl)).to (by walk_at "side" /-lce79-/)⟩)) eda_nil) rc_allm) (fun hb => (ed_and (ed_isB (ed_call (eda_cons (ed_tup (eda_cons ed_int (eda_cons ed_int eda_nil))) eda_nil) R_01) ed_bl) (fun hb => (ed_isB (ed_call (eda_cons (ed_tup (eda_cons ed_int (eda_cons ed_int eda_nil))) eda_nil) R_71) ed_bl))))) (by walk_at "side" /-ret80-/)))))))))))))))))))))⟩
end
/-! ### all defs together -/
section
variable {P : Program} {w : World} {K : PySem.W.Frag} {mg : Str → Option Value} {base : Heap}
theorem all_law (T : Txt K mg) {fl : Addr} {fdl : FuncData} (F : Fun K "law" "law" st_law fl fdl) : FnOk P w K mg base (L2.CX P w) 5 fl fdl ["script"] (spD K R_law) := by
  have h_is_integer := d_is_integer (P := P) (w := w) (base := base) T
  have h_is_tuple_of := d_is_tuple_of (P := P) (w := w) (base := base) T
  have h_common := d_common (P := P) (w := w) (base := base) T
  have h_is_more := d_is_more (P := P) (w := w) (base := base) T
  have h__law_mixed := d__law_mixed (P := P) (w := w) (base := base) T
  have h__law_at := d__law_at (P := P) (w := w) (base := base) T
  have h__law_ratio := d__law_ratio (P := P) (w := w) (base := base) T
  have h__law_flag := d__law_flag (P := P) (w := w) (base := base) T
  have h_ratio := d_ratio (P := P) (w := w) (base := base) T h_common
  have h__law_row := d__law_row (P := P) (w := w) (base := base) T h__law_mixed
  have h_plus := d_plus (P := P) (w := w) (base := base) T h_ratio
  have h_times := d_times (P := P) (w := w) (base := base) T h_ratio
  have h_is_ratio := d_is_ratio (P := P) (w := w) (base := base) T h_is_integer h_is_tuple_of h_ratio
  have h_shared := d_shared (P := P) (w := w) (base := base) T h_ratio
  have h_total := d_total (P := P) (w := w) (base := base) T h_plus
  exact d_law T h__law_at h__law_flag h__law_ratio h__law_row h_is_more h_is_ratio h_plus h_ratio h_shared h_times h_total F
end
theorem law_fd {K : PySem.W.Frag} {mg : Str → Option Value} (T : Txt K mg) {fa : Addr} (hfa : mg "law" = some (.ref fa)) (P : Program) (w : World) :
    ∃ fd : FuncData, (∀ (s : Shared) (v : Value), BindsTo s fd ⟨[v], []⟩ [("script", v)]) ∧ ∀ base : Heap, FnOk P w K mg base (L2.CX P w) 5 fa fd ["script"] (spD K R_law) := by
  obtain ⟨f, fd, F, B, M⟩ := T.d_law.ex
  rw [hfa] at M
  cases M
  refine ⟨fd, fun s v => ?_, fun base => all_law T F⟩
  obtain ⟨oc, od, kV, doc, pm, an, cdv, ct, osl, rfl, _, _⟩ := F.ex
  exact .of_eq rfl
end Lw
open PySem PySem.W PyProof.Rows
set_option maxHeartbeats 0 in
theorem PySem.Challenge.cw_onionpost_k73_parts_reckoned_holds : PySem.Challenge.rw_onionpost_k73_parts_reckoned.Holds := by
  w_on; o_law; k_head; (case hw => w_witness2)
  k_fill
  refine L2.walk_of (l := PySem.Challenge.rw_onionpost_k73_parts_reckoned) (n := 63) (k := 5) (x := "script") (CX := fun w => L2.CX PySem.Challenge.rw_onionpost_k73_parts_reckoned.prog w) (sp := fun w => D2.spD _ Lw.R_law) rfl (by decide) rfl ⟨rfl, by decide, by decide⟩ (fun w h Y => PySem.W.kIn_of Y) ?F (fun w H a ns hl hO hS => Lw.law_sp hl hS) (fun _ _ _ _ _ h => D2.no_out h)
  case F =>
    intro w mg fa h KX G hmg
    refine' Exists.elim (Lw.law_fd (Lw.Txt.mk (D2.at_mk KX G (fun _ _ _ _ _ _ us hl => match us, hl with | [_], _ => rfl) ?a0 ?l0 ?c0 ?k0) (D2.at_mk KX G (fun _ _ _ _ _ _ us hl => match us, hl with | [_, _], _ => rfl) ?a1 ?l1 ?c1 ?k1) (D2.at_mk KX G (fun _ _ _ _ _ _ us hl => match us, hl with | [_, _], _ => rfl) ?a2 ?l2 ?c2 ?k2) (D2.at_mk KX G (fun _ _ _ _ _ _ us hl => match us, hl with | [_, _], _ => rfl) ?a3 ?l3 ?c3 ?k3) (D2.at_mk KX G (fun _ _ _ _ _ _ us hl => match us, hl with | [_, _], _ => rfl) ?a4 ?l4 ?c4 ?k4) (D2.at_mk KX G (fun _ _ _ _ _ _ us hl => match us, hl with | [_, _], _ => rfl) ?a5 ?l5 ?c5 ?k5) (D2.at_mk KX G (fun _ _ _ _ _ _ us hl => match us, hl with | [_], _ => rfl) ?a6 ?l6 ?c6 ?k6) (D2.at_mk KX G (fun _ _ _ _ _ _ us hl => match us, hl with | [_, _], _ => rfl) ?a7 ?l7 ?c7 ?k7) (D2.at_mk KX G (fun _ _ _ _ _ _ us hl => match us, hl with | [_], _ => rfl) ?a8 ?l8 ?c8 ?k8) (D2.at_mk KX G (fun _ _ _ _ _ _ us hl => match us, hl with | [_], _ => rfl) ?a9 ?l9 ?c9 ?k9) (D2.at_mk KX G (fun _ _ _ _ _ _ us hl => match us, hl with | [_, _], _ => rfl) ?a10 ?l10 ?c10 ?k10) (D2.at_mk KX G (fun _ _ _ _ _ _ us hl => match us, hl with | [_, _, _], _ => rfl) ?a11 ?l11 ?c11 ?k11) (D2.at_mk KX G (fun _ _ _ _ _ _ us hl => match us, hl with | [_, _], _ => rfl) ?a12 ?l12 ?c12 ?k12) (D2.at_mk KX G (fun _ _ _ _ _ _ us hl => match us, hl with | [_, _], _ => rfl) ?a13 ?l13 ?c13 ?k13) (D2.at_mk KX G (fun _ _ _ _ _ _ us hl => match us, hl with | [_, _], _ => rfl) ?a14 ?l14 ?c14 ?k14) (D2.at_mk KX G (fun _ _ _ _ _ _ us hl => match us, hl with | [_], _ => rfl) ?a15 ?l15 ?c15 ?k15) (PySem.W.mg_none_of KX G ?z16) (PySem.W.mg_none_of KX G ?z17) (PySem.W.mg_none_of KX G ?z18) (PySem.W.mg_none_of KX G ?z19) (PySem.W.mg_none_of KX G ?z20) (PySem.W.mg_none_of KX G ?z21) (PySem.W.mg_none_of KX G ?z22) (PySem.W.mg_none_of KX G ?z23) (PySem.W.mg_none_of KX G ?z24)) hmg PySem.Challenge.rw_onionpost_k73_parts_reckoned.prog w) fun fd q => ⟨fd, q.1, fun base _ _ => q.2 base⟩
    (case a0 => k_is)
    (case l0 => k_is)
    (case c0 => k_is)
    (case k0 => k_is)
    (case a1 => k_is)
    (case l1 => k_is)
    (case c1 => k_is)
    (case k1 => k_is)
    (case a2 => k_is)
    (case l2 => k_is)
    (case c2 => k_is)
    (case k2 => k_is)
    (case a3 => k_is)
    (case l3 => k_is)
    (case c3 => k_is)
    (case k3 => k_is)
    (case a4 => k_is)
    (case l4 => k_is)
    (case c4 => k_is)
    (case k4 => k_is)
    (case a5 => k_is)
    (case l5 => k_is)
    (case c5 => k_is)
    (case k5 => k_is)
    (case a6 => k_is)
    (case l6 => k_is)
    (case c6 => k_is)
    (case k6 => k_is)
    (case a7 => k_is)
    (case l7 => k_is)
    (case c7 => k_is)
    (case k7 => k_is)
    (case a8 => k_is)
    (case l8 => k_is)
    (case c8 => k_is)
    (case k8 => k_is)
    (case a9 => k_is)
    (case l9 => k_is)
    (case c9 => k_is)
    (case k9 => k_is)
    (case a10 => k_is)
    (case l10 => k_is)
    (case c10 => k_is)
    (case k10 => k_is)
    (case a11 => k_is)
    (case l11 => k_is)
    (case c11 => k_is)
    (case k11 => k_is)
    (case a12 => k_is)
    (case l12 => k_is)
    (case c12 => k_is)
    (case k12 => k_is)
    (case a13 => k_is)
    (case l13 => k_is)
    (case c13 => k_is)
    (case k13 => k_is)
    (case a14 => k_is)
    (case l14 => k_is)
    (case c14 => k_is)
    (case k14 => k_is)
    (case a15 => k_is)
    (case l15 => k_is)
    (case c15 => k_is)
    (case k15 => k_is)
    (case z16 => k_is)
    (case z17 => k_is)
    (case z18 => k_is)
    (case z19 => k_is)
    (case z20 => k_is)
    (case z21 => k_is)
    (case z22 => k_is)
    (case z23 => k_is)
    (case z24 => k_is)
