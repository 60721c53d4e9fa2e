import PyProof.Rows.All
import Wide.All
import OpenK.AllK
import Wide.FinOn
import HandS.ForMost
import HandS.Exc
import HandS.TryOnly
import HandS.ExcOwn
import HandS.WordsExc
import HandS.IsInst
import HandS.Style
import HandS.TupAny
import HandS.Wide
import KE.SortData
import KE.DataCmp
import HandS.Zip
import KE.GoesMore
import KE.GoesZip
import KE.KDictZip
import HandS.Conv
import HandS.TupMul
import KE.GoesEnum
import HandS.TupSets
import HandS.Strs
import KE.KDictWalk
import HandS.ExcIs
import KE.KDictOf
import KE.KDictCopyH
import PySem.Challenge.RW_onionpost_k66_whole_friends_left
set_option Elab.async false
set_option linter.all false
set_option maxRecDepth 100000
set_option maxHeartbeats 4000000
/-! data-level walking: values as plain data (PyData), the heap kept out of sight -/
namespace D2
open PySem PySem.Spec PyProof.Rows L2

/-- the most items of a list or tuple here -/
def LIM : Nat := 1000000
theorem lim_le {n : Nat} (h : n ≤ LIM) : n ≤ sizeLine := Nat.le_trans h (by decide)
theorem lim_lt {n : Nat} (h : n ≤ LIM) : n < sizeLine := Nat.lt_of_le_of_lt h (by decide)

/-! ### how a value stands for data in a heap that only grows -/
/-- the script, as data: a list that is read alone -/
def scr (ns : List Int) : PyData := .dict [(.list (ns.map .int), .none)]
def keyD : Key → PyData
  | .inl i => .int i
  | .inr x => .str x
def tkD (k : List Key) : PyData := .tuple (k.map keyD)
/-- dicts, as data: a mark first, then their pairs; keys ints and texts, or tuples of these -/
def dkD (kvs : List (Key × PyData)) : PyData := .dict ((.bool false, .none) :: kvs.map fun p => (keyD p.1, p.2))
def dtD (kvs : List (List Key × PyData)) : PyData := .dict ((.bool true, .none) :: kvs.map fun p => (tkD p.1, p.2))
/-- an instance that changes no more -/
def obD (c : Str) (fs : List (Str × PyData)) : PyData := .dict ((.none, .str c) :: fs.map fun p => (.str p.1, p.2))
/-- the class named c is the one at C -/
def ClsAt (K : PySem.W.Frag) (c : Str) (C : Addr) : Prop := PySem.W.nsIn K mainGlobals c = some (some (.ref C))
/-- what a dict's keys and the values beside them stand for -/
def DicV (K : PySem.W.Frag) (G : Hp) (ks : List PyData) (ws : List V) (v : V) : Prop :=
  (∃ (a : Addr) (ns : List Int), v = .ref a ∧ SqL K G a (ns.map V.int) ∧ ks = [.list (ns.map .int)]) ∨
  (∃ (a : Addr) (o : Obj) (kk : List Key) (us : List V), v = .ref a ∧ ks = .bool false :: kk.map keyD ∧ ws = .non :: us ∧ kk.length ≤ LIM ∧ G a = some (.frz o (.dK (kk.zip us)))) ∨
  (∃ (a : Addr) (o : Obj) (kk : List (List Key)) (us : List V), v = .ref a ∧ ks = .bool true :: kk.map tkD ∧ ws = .non :: us ∧ kk.length ≤ LIM ∧ G a = some (.frz o (.dT (kk.zip us)))) ∨
  (∃ (x C dx : Addr) (c : Str) (fs : List Str) (us : List V), v = .ref x ∧ ks = .none :: fs.map .str ∧ ws = .str c :: us ∧ ClsAt K c C ∧ G x = some (.ins C dx (fs.zip us)))
mutual
def Rp (K : PySem.W.Frag) (G : Hp) : PyData → V → Prop
  | .none, v => v = .non
  | .bool b, v => v = .bl b
  | .int i, v => v = .int i
  | .str x, v => v = .str x
  | .list ds, v => ∃ a xs, v = .ref a ∧ G a = some (.lst xs) ∧ ds.length ≤ LIM ∧ RpA K G ds xs
  | .tuple ds, v => ∃ a xs, v = .ref a ∧ G a = some (.tup xs) ∧ ds.length ≤ LIM ∧ RpA K G ds xs
  | .dict kvs, v => ∃ ws, RpK K G kvs ws ∧ DicV K G (kvs.map Prod.fst) ws v
def RpA (K : PySem.W.Frag) (G : Hp) : List PyData → List V → Prop
  | [], xs => xs = []
  | d :: ds, xs => ∃ v vs, xs = v :: vs ∧ Rp K G d v ∧ RpA K G ds vs
def RpK (K : PySem.W.Frag) (G : Hp) : List (PyData × PyData) → List V → Prop
  | [], xs => xs = []
  | (_, d) :: r, xs => ∃ v vs, xs = v :: vs ∧ Rp K G d v ∧ RpK K G r vs
end

theorem same_sq {K : PySem.W.Frag} {H H' : Hp} {a : Addr} {xs : List V} (e : Same H H') (h : SqT K H a xs) : SqT K H' a xs := by
  rcases h with (h | ⟨o, h⟩) | h
  · exact .inl (.inl (e _ _ h))
  · exact .inl (.inr ⟨o, e _ _ h⟩)
  · exact .inr h
theorem same_t {K : PySem.W.Frag} {H H' : Hp} {a : Addr} {xs : List V} (e : Same H H') (h : H a = some (.tup xs)) : SqT K H' a xs := SqT.of (e _ _ h)
theorem DicV.mono {K : PySem.W.Frag} {G G' : Hp} {ks : List PyData} {ws : List V} {v : V} (e : Same G G') (h : DicV K G ks ws v) : DicV K G' ks ws v := by
  rcases h with ⟨a, ns, h1, h2, h3⟩ | ⟨a, o, kk, us, h1, h2, h3, h4, h5⟩ | ⟨a, o, kk, us, h1, h2, h3, h4, h5⟩ | ⟨x, C, dx, c, fs, us, h1, h2, h3, h4, h5⟩
  · exact .inl ⟨a, ns, h1, Same.seq e h2, h3⟩
  · exact .inr (.inl ⟨a, o, kk, us, h1, h2, h3, h4, e _ _ h5⟩)
  · exact .inr (.inr (.inl ⟨a, o, kk, us, h1, h2, h3, h4, e _ _ h5⟩))
  · exact .inr (.inr (.inr ⟨x, C, dx, c, fs, us, h1, h2, h3, h4, e _ _ h5⟩))
mutual
theorem Rp.mono {K : PySem.W.Frag} {G G' : Hp} (e : Same G G') : ∀ {d : PyData} {v : V}, Rp K G d v → Rp K G' d v
  | .none, _, h => h
  | .bool _, _, h => h
  | .int _, _, h => h
  | .str _, _, h => h
  | .list _, _, ⟨a, xs, h1, h2, h3, h4⟩ => ⟨a, xs, h1, e _ _ h2, h3, RpA.mono e h4⟩
  | .tuple _, _, ⟨a, xs, h1, h2, h3, h4⟩ => ⟨a, xs, h1, e _ _ h2, h3, RpA.mono e h4⟩
  | .dict _, _, ⟨ws, h1, h2⟩ => ⟨ws, RpK.mono e h1, h2.mono e⟩
theorem RpA.mono {K : PySem.W.Frag} {G G' : Hp} (e : Same G G') : ∀ {ds : List PyData} {vs : List V}, RpA K G ds vs → RpA K G' ds vs
  | [], _, h => h
  | _ :: _, _, ⟨v, vs, h1, h2, h3⟩ => ⟨v, vs, h1, Rp.mono e h2, RpA.mono e h3⟩
theorem RpK.mono {K : PySem.W.Frag} {G G' : Hp} (e : Same G G') : ∀ {ds : List (PyData × PyData)} {vs : List V}, RpK K G ds vs → RpK K G' ds vs
  | [], _, h => h
  | (_, _) :: _, _, ⟨v, vs, h1, h2, h3⟩ => ⟨v, vs, h1, Rp.mono e h2, RpK.mono e h3⟩
end
mutual
theorem Rp.dp {K : PySem.W.Frag} {G : Hp} : ∀ {d : PyData} {v : V}, d.canLay0 = true → Rp K G d v → Dp K G v d
  | .none, _, _, h => by cases h; exact .non
  | .bool b, _, _, h => by cases h; exact .bl b
  | .int i, _, _, h => by cases h; exact .int i
  | .str x, _, _, h => by cases h; exact .str x
  | .list _, _, c, ⟨a, xs, h1, h2, h3, h4⟩ => by cases h1; exact .lst (SqL.of h2) (RpA.dp c h4)
  | .tuple _, _, c, ⟨a, xs, h1, h2, h3, h4⟩ => by cases h1; exact .tup (SqT.of h2) (RpA.dp c h4)
  | .dict _, _, c, h => by cases c
theorem RpA.dp {K : PySem.W.Frag} {G : Hp} : ∀ {ds : List PyData} {vs : List V}, PyData.canLayAll0 ds = true → RpA K G ds vs → DpAll K G vs ds
  | [], _, _, h => by cases h; exact .nil
  | d :: ds, _, c, ⟨v, vs, h1, h2, h3⟩ => by
    have c' : d.canLay0 = true ∧ PyData.canLayAll0 ds = true := by simpa [PyData.canLayAll0] using c
    cases h1; exact .cons (Rp.dp c'.1 h2) (RpA.dp c'.2 h3)
end
section
variable {K : PySem.W.Frag} {G : Hp}
theorem RpA.length : ∀ {ds : List PyData} {vs : List V}, RpA K G ds vs → vs.length = ds.length
  | [], _, h => by cases h; rfl
  | _ :: _, _, ⟨v, vs, h1, _, h3⟩ => by cases h1; simp [RpA.length h3]
theorem RpA.get : ∀ {ds : List PyData} {vs : List V} {i : Nat} {d : PyData}, RpA K G ds vs → ds[i]? = some d → ∃ v, vs[i]? = some v ∧ Rp K G d v
  | [], _, _, _, _, e => by simp at e
  | _ :: _, _, 0, d, ⟨v, vs, h1, h2, _⟩, e => by cases h1; simp at e; subst e; exact ⟨v, rfl, h2⟩
  | _ :: _, _, i + 1, d, ⟨v, vs, h1, _, h3⟩, e => by
    cases h1
    obtain ⟨u, e1, e2⟩ := RpA.get (i := i) h3 (by simpa using e)
    exact ⟨u, by simpa using e1, e2⟩
theorem RpA.append : ∀ {ds es : List PyData} {vs us : List V}, RpA K G ds vs → RpA K G es us → RpA K G (ds ++ es) (vs ++ us)
  | [], _, _, _, h, h' => by cases h; exact h'
  | _ :: _, _, _, _, ⟨v, vs, h1, h2, h3⟩, h' => by cases h1; exact ⟨v, _, rfl, h2, RpA.append h3 h'⟩
theorem RpA.take : ∀ {ds : List PyData} {vs : List V} (n : Nat), RpA K G ds vs → RpA K G (ds.take n) (vs.take n)
  | _, _, 0, _ => rfl
  | [], _, _ + 1, h => by cases h; rfl
  | _ :: _, _, n + 1, ⟨v, vs, h1, h2, h3⟩ => by cases h1; exact ⟨v, _, rfl, h2, RpA.take n h3⟩
theorem RpA.drop : ∀ {ds : List PyData} {vs : List V} (n : Nat), RpA K G ds vs → RpA K G (ds.drop n) (vs.drop n)
  | _, _, 0, h => h
  | [], _, _ + 1, h => by cases h; rfl
  | _ :: _, _, n + 1, ⟨v, vs, h1, h2, h3⟩ => by cases h1; exact RpA.drop n h3
theorem RpA.reverse : ∀ {ds : List PyData} {vs : List V}, RpA K G ds vs → RpA K G ds.reverse vs.reverse
  | [], _, h => by cases h; rfl
  | _ :: _, _, ⟨v, vs, h1, h2, h3⟩ => by
    cases h1
    rw [List.reverse_cons, List.reverse_cons]
    exact RpA.append (RpA.reverse h3) ⟨v, [], rfl, h2, rfl⟩
theorem RpA.ints : ∀ {ns : List Int} {vs : List V}, RpA K G (ns.map PyData.int) vs → vs = ns.map V.int
  | [], _, h => h
  | _ :: _, _, ⟨v, vs, h1, h2, h3⟩ => by cases h1; cases h2; rw [RpA.ints h3]; rfl
theorem RpA.bools : ∀ {ns : List Bool} {vs : List V}, RpA K G (ns.map PyData.bool) vs → vs = ns.map V.bl
  | [], _, h => h
  | _ :: _, _, ⟨v, vs, h1, h2, h3⟩ => by cases h1; cases h2; rw [RpA.bools h3]; rfl
theorem RpA.snoc {ds : List PyData} {vs : List V} {d : PyData} {v : V} (h : RpA K G ds vs) (h' : Rp K G d v) : RpA K G (ds ++ [d]) (vs ++ [v]) := h.append ⟨v, [], rfl, h', rfl⟩
end

/-! ### growth: G what is known to stay, H all -/
/-- what stands there is no tuple: it may change -/
def Mu (H : Hp) (a : Addr) : Prop := ∃ o, H a = some o ∧ ∀ xs, o ≠ .tup xs
theorem Mu.ne {H : Hp} {a : Addr} (h : Mu H a) : H a ≠ none := by obtain ⟨o, e, _⟩ := h; rw [e]; exact fun z => by cases z
theorem Mu.of {H : Hp} {a : Addr} {o : HO} (e : H a = some o) (n : ∀ xs, o ≠ .tup xs := by exact fun _ z => by cases z) : Mu H a := ⟨o, e, n⟩
theorem Mu.up {H H' : Hp} {a : Addr} (h : Mu H a) (s : Same H H') : Mu H' a := by obtain ⟨o, e, n⟩ := h; exact ⟨o, s _ _ e, n⟩
theorem Mu.eq {H H' : Hp} {a : Addr} (h : Mu H a) (e : H' a = H a) : Mu H' a := by obtain ⟨o, e', n⟩ := h; exact ⟨o, e.trans e', n⟩
structure Grow (G H G2 H2 : Hp) : Prop where
  gg : Same G G2
  hh : Same H H2
  gh : Same G2 H2
  sep : ∀ a, G a = none → Mu H a → G2 a = none
theorem Same.back {H H' : Hp} (e : Same H H') {a : Addr} (h : H' a = none) : H a = none := by
  cases q : H a with
  | none => rfl
  | some o => rw [e a o q] at h; cases h
section
variable {G G1 G2 G3 H H1 H2 H3 : Hp}
theorem Grow.refl (e : Same G H) : Grow G H G H := ⟨Same.refl G, Same.refl H, e, fun _ h _ => h⟩
theorem Grow.trans (a : Grow G H G1 H1) (b : Grow G1 H1 G2 H2) : Grow G H G2 H2 :=
  ⟨a.gg.trans b.gg, a.hh.trans b.hh, b.gh, fun x h1 h2 => b.sep x (a.sep x h1 h2) (h2.up a.hh)⟩
theorem same_upd {H : Hp} {p : Addr} {o : HO} (h : H p = none) : Same H (upd H p o) := fun b x e => by
  rw [upd_ne (ne_of_none e h)]
  exact e
theorem same_upd2 {p : Addr} {o : HO} (e : Same G H) : Same (upd G p o) (upd H p o) := fun b x q => by
  by_cases hb : b = p
  · subst hb; rw [upd_same] at q ⊢; exact q
  · rw [upd_ne hb] at q ⊢; exact e b x q
/-- a new object -/
theorem Grow.new {p : Addr} {o : HO} (e : Same G H) (h : H p = none) : Grow G H (upd G p o) (upd H p o) :=
  ⟨same_upd (Same.back e h), same_upd h, same_upd2 e, fun a h1 h2 => by
    rw [upd_ne (fun z => h2.ne (by rw [z]; exact h))]
    exact h1⟩
/-- H alone has grown -/
theorem Grow.quiet (e : Same G H) (e2 : Same H H2) : Grow G H G H2 := ⟨Same.refl G, e2, e.trans e2, fun _ h _ => h⟩
/-- what was reached from a smaller G is reached from a greater one -/
theorem Grow.lift (g : Grow G H G2 H2) (e : Same G G1) (e1 : Same G1 H) : ∃ G3, Grow G1 H G3 H2 ∧ Same G2 G3 := by
  refine ⟨fun a => (G1 a).or (G2 a), ⟨fun a o q => by simp [q], g.hh, fun a o q => ?_, fun a h1 h2 => ?_⟩, fun a o q => ?_⟩
  · cases q1 : G1 a with
    | some x => rw [q1] at q; simp at q; subst q; exact g.hh a x (e1 a x q1)
    | none => rw [q1] at q; simp at q; exact g.gh a o q
  · show (G1 a).or (G2 a) = none
    rw [h1, g.sep a (Same.back e h1) h2]; rfl
  · cases q1 : G1 a with
    | none => simp [q, q1]
    | some x =>
      have e3 : H2 a = some x := g.hh a x (e1 a x q1)
      rw [g.gh a o q] at e3
      simp [q1, e3]
end

/-! ### slots: data, or a thing of our own that may still be changed -/
/-- a thing of one's own: what stands at its addresses fp, by the data G that it holds -/
structure OwnA (K : PySem.W.Frag) where
  P : Hp → Hp → V → List Addr → Prop
  loc : ∀ {G H G2 H2 : Hp} {v : V} {fp : List Addr}, P G H v fp → Same G G2 → (∀ a ∈ fp, H2 a = H a) → P G2 H2 v fp
inductive Sl (K : PySem.W.Frag) where
  | un | da (d : PyData) | ow (A : OwnA K)
abbrev Sls (K : PySem.W.Frag) := List (Sl K)
structure FrOk (K : PySem.W.Frag) (H0 G H : Hp) (ρ : Sls K) (σ : L2.St) : Prop where
  len : σ.length = ρ.length
  get : ∀ (i : Nat) d, ρ[i]? = some (.da d) → ∃ v, σ[i]? = some (some v) ∧ Rp K G d v
  own : ∃ fps : Nat → List Addr, (∀ (i : Nat) A, ρ[i]? = some (.ow A) → ∃ v, σ[i]? = some (some v) ∧ A.P G H v (fps i) ∧ ∀ p ∈ fps i, G p = none ∧ H0 p = none ∧ Mu H p) ∧
    ∀ (i j : Nat) A B, i ≠ j → ρ[i]? = some (.ow A) → ρ[j]? = some (.ow B) → ∀ p ∈ fps i, p ∉ fps j
/-! ### what a reading evaluates to -/
def EvH (K : PySem.W.Frag) (te : TE) (σ : L2.St) (G H : Hp) (d : PyData) : Prop := ∀ Q : VK, (∀ v G2 H2, Grow G H G2 H2 → Rp K G2 d v → Q v H2) → te σ H Q
def EvAH (K : PySem.W.Frag) (ta : TA) (σ : L2.St) (G H : Hp) (ds : List PyData) : Prop := ∀ Q : List V → Hp → Prop, (∀ vs G2 H2, Grow G H G2 H2 → RpA K G2 ds vs → Q vs H2) → ta σ H Q
def EvTH (tt : TT) (σ : L2.St) (H : Hp) (b : Bool) : Prop := ∀ Q : Bool → Hp → Prop, (∀ H2, Same H H2 → Q b H2) → tt σ H Q
def ED (K : PySem.W.Frag) (te : TE) (ρ : Sls K) (d : PyData) : Prop := ∀ H0 σ G H, FrOk K H0 G H ρ σ → Same G H → EvH K te σ G H d
def EDA (K : PySem.W.Frag) (ta : TA) (ρ : Sls K) (ds : List PyData) : Prop := ∀ H0 σ G H, FrOk K H0 G H ρ σ → Same G H → EvAH K ta σ G H ds
def ET (K : PySem.W.Frag) (tt : TT) (ρ : Sls K) (b : Bool) : Prop := ∀ H0 σ G H, FrOk K H0 G H ρ σ → Same G H → EvTH tt σ H b
/-- an operation on values -/
def RV (K : PySem.W.Frag) (r : R2) (x y z : PyData) : Prop := ∀ G H vx vy, Same G H → Rp K G x vx → Rp K G y vy → ∀ Q : VK, (∀ v G2 H2, Grow G H G2 H2 → Rp K G2 z v → Q v H2) → r vx vy H Q
def RU (K : PySem.W.Frag) (r : V → Hp → VK → Prop) (x z : PyData) : Prop := ∀ G H vx, Same G H → Rp K G x vx → ∀ Q : VK, (∀ v G2 H2, Grow G H G2 H2 → Rp K G2 z v → Q v H2) → r vx H Q
def RC (K : PySem.W.Frag) (r : List V → Hp → VK → Prop) (xs : List PyData) (z : PyData) : Prop := ∀ G H vs, Same G H → RpA K G xs vs → ∀ Q : VK, (∀ v G2 H2, Grow G H G2 H2 → Rp K G2 z v → Q v H2) → r vs H Q

section
variable {K : PySem.W.Frag} {σ : L2.St} {G G1 G2 H H1 H2 : Hp} {ta tb tc te : TE} {t u : TT} {ρ : Sls K} {d x y z : PyData} {ds : List PyData} {b : Bool}
/-- behind an evaluation -/
theorem FrOk.grow {H0 : Hp} (h : FrOk K H0 G H ρ σ) (g : Grow G H G2 H2) : FrOk K H0 G2 H2 ρ σ := by
  obtain ⟨fps, h1, h2⟩ := h.own
  refine ⟨h.len, fun i d q => let ⟨v, a, b⟩ := h.get i d q; ⟨v, a, b.mono g.gg⟩, fps, fun i A q => ?_, h2⟩
  obtain ⟨v, a, b, c⟩ := h1 i A q
  refine ⟨v, a, A.loc b g.gg fun p hp => ?_, fun p hp => ⟨g.sep p (c p hp).1 (c p hp).2.2, (c p hp).2.1, (c p hp).2.2.up g.hh⟩⟩
  obtain ⟨o, e, _⟩ := (c p hp).2.2
  rw [e]; exact g.hh p o e
theorem FrOk.quiet {H0 : Hp} (h : FrOk K H0 G H ρ σ) (s : Same G H) (e : Same H H2) : FrOk K H0 G H2 ρ σ := h.grow (Grow.quiet s e)
theorem ED.to (h : ED K te ρ d) (e : d = z) : ED K te ρ z := e ▸ h
theorem ET.to {b c : Bool} (h : ET K t ρ b) (e : b = c) : ET K t ρ c := e ▸ h
theorem ed_var {i : Nat} (h : ρ[i]? = some (.da d)) : ED K (tVar i) ρ d := fun H0 σ G H er s Q q => by
  obtain ⟨v, e, r⟩ := er.get i d h
  exact ⟨v, e, q v G H (Grow.refl s) r⟩
theorem ed_int {i : Int} : ED K (tC (.int i)) ρ (.int i) := fun H0 σ G H er s Q q => q _ G H (Grow.refl s) rfl
theorem ed_bl {i : Bool} : ED K (tC (.bl i)) ρ (.bool i) := fun H0 σ G H er s Q q => q _ G H (Grow.refl s) rfl
theorem ed_non : ED K (tC .non) ρ .none := fun H0 σ G H er s Q q => q _ G H (Grow.refl s) rfl
theorem ed_str {i : Str} : ED K (tC (.str i)) ρ (.str i) := fun H0 σ G H er s Q q => q _ G H (Grow.refl s) rfl
theorem ed_op {r : R2} (ha : ED K ta ρ x) (hb : ED K tb ρ y) (hr : RV K r x y z) : ED K (tOp r ta tb) ρ z := fun H0 σ G H er s Q q =>
  ha H0 σ G H er s _ fun vx G1 H1 g1 r1 => hb H0 σ G1 H1 (er.grow g1) g1.gh _ fun vy G2 H2 g2 r2 =>
    hr G2 H2 vx vy g2.gh (r1.mono g2.gg) r2 Q fun v G3 H3 g3 r3 => q v G3 H3 ((g1.trans g2).trans g3) r3
theorem ed_un {r : V → Hp → VK → Prop} (ha : ED K ta ρ x) (hr : RU K r x z) : ED K (tUn r ta) ρ z := fun H0 σ G H er s Q q =>
  ha H0 σ G H er s _ fun vx G1 H1 g1 r1 => hr G1 H1 vx g1.gh r1 Q fun v G3 H3 g3 r3 => q v G3 H3 (g1.trans g3) r3
theorem eda_nil : EDA K tNil ρ [] := fun H0 σ G H er s Q q => q [] G H (Grow.refl s) rfl
theorem eda_cons {tr : TA} (ha : ED K ta ρ d) (hr : EDA K tr ρ ds) : EDA K (tCons ta tr) ρ (d :: ds) := fun H0 σ G H er s Q q =>
  ha H0 σ G H er s _ fun vx G1 H1 g1 r1 => hr H0 σ G1 H1 (er.grow g1) g1.gh _ fun vs G2 H2 g2 r2 => q (vx :: vs) G2 H2 (g1.trans g2) ⟨vx, vs, rfl, r1.mono g2.gg, r2⟩
theorem ed_cb {r : List V → Hp → VK → Prop} {t : TA} (ha : EDA K t ρ ds) (hr : RC K r ds z) : ED K (tCB r t) ρ z := fun H0 σ G H er s Q q =>
  ha H0 σ G H er s _ fun vs G1 H1 g1 r1 => hr G1 H1 vs g1.gh r1 Q fun v G3 H3 g3 r3 => q v G3 H3 (g1.trans g3) r3
theorem ed_tup {t : TA} (ha : EDA K t ρ ds) (hl : ds.length ≤ LIM := by first | decide | (simp only [List.length_cons, List.length_nil, List.length_map]; decide)) : ED K (tTup t) ρ (.tuple ds) := fun H0 σ G H er s Q q =>
  ha H0 σ G H er s _ fun vs G1 H1 g1 r1 => ⟨by rw [r1.length]; exact lim_le hl, fun p hp => q _ _ _ (g1.trans (Grow.new g1.gh hp)) ⟨p, vs, rfl, upd_same, hl, r1.mono (same_upd (Same.back g1.gh hp))⟩⟩
theorem ed_lst {t : TA} (ha : EDA K t ρ ds) (hl : ds.length ≤ LIM := by first | decide | (simp only [List.length_cons, List.length_nil, List.length_map]; decide)) : ED K (tLst t) ρ (.list ds) := fun H0 σ G H er s Q q =>
  ha H0 σ G H er s _ fun vs G1 H1 g1 r1 => ⟨by rw [r1.length]; exact lim_le hl, fun p hp => q _ _ _ (g1.trans (Grow.new g1.gh hp)) ⟨p, vs, rfl, upd_same, hl, r1.mono (same_upd (Same.back g1.gh hp))⟩⟩

/-! operations -/
theorem rv_I0 {g : Int → Int → V} {i j : Int} {z : PyData} (h : ∀ G, Rp K G z (g i j)) : RV K (rI0 g) (.int i) (.int j) z := fun G H vx vy s hx hy Q q => by
  cases hx; cases hy
  exact ⟨i, j, rfl, rfl, q _ G H (Grow.refl s) (h G)⟩
theorem rv_I {C : Int → Int → Prop} {g : Int → Int → V} {i j : Int} {z : PyData} (hc : C i j) (h : ∀ G, Rp K G z (g i j)) : RV K (rI C g) (.int i) (.int j) z := fun G H vx vy s hx hy Q q => by
  cases hx; cases hy
  exact ⟨i, j, rfl, rfl, hc, q _ G H (Grow.refl s) (h G)⟩
theorem ed_add {i j : Int} (ha : ED K ta ρ (.int i)) (hb : ED K tb ρ (.int j)) : ED K (tOp (rI0 fun i j => .int (i + j)) ta tb) ρ (.int (i + j)) := ed_op ha hb (rv_I0 fun _ => rfl)
theorem ed_sub {i j : Int} (ha : ED K ta ρ (.int i)) (hb : ED K tb ρ (.int j)) : ED K (tOp (rI0 fun i j => .int (i - j)) ta tb) ρ (.int (i - j)) := ed_op ha hb (rv_I0 fun _ => rfl)
theorem ed_mul {i j : Int} (ha : ED K ta ρ (.int i)) (hb : ED K tb ρ (.int j)) (hc : CMul i j) : ED K (tOp (rI CMul fun i j => .int (i * j)) ta tb) ρ (.int (i * j)) := ed_op ha hb (rv_I hc fun _ => rfl)
theorem ed_mod {i j : Int} (ha : ED K ta ρ (.int i)) (hb : ED K tb ρ (.int j)) (hc : 0 < j) : ED K (tOp (rI (fun _ j => 0 < j) fun i j => .int (i % j)) ta tb) ρ (.int (i % j)) := ed_op ha hb (rv_I hc fun _ => rfl)
theorem ed_fdiv {i j : Int} (ha : ED K ta ρ (.int i)) (hb : ED K tb ρ (.int j)) (hc : CDivW i j) : ED K (tOp (rI CDivW fun i j => .int (i / j)) ta tb) ρ (.int (i / j)) := ed_op ha hb (rv_I hc fun _ => rfl)
theorem ed_lt {i j : Int} (ha : ED K ta ρ (.int i)) (hb : ED K tb ρ (.int j)) : ED K (tOp (rI0 fun i j => .bl (decide (i < j))) ta tb) ρ (.bool (decide (i < j))) := ed_op ha hb (rv_I0 fun _ => rfl)
theorem ed_le {i j : Int} (ha : ED K ta ρ (.int i)) (hb : ED K tb ρ (.int j)) : ED K (tOp (rI0 fun i j => .bl (decide (i ≤ j))) ta tb) ρ (.bool (decide (i ≤ j))) := ed_op ha hb (rv_I0 fun _ => rfl)
theorem ed_gt {i j : Int} (ha : ED K ta ρ (.int i)) (hb : ED K tb ρ (.int j)) : ED K (tOp (rI0 fun i j => .bl (decide (j < i))) ta tb) ρ (.bool (decide (j < i))) := ed_op ha hb (rv_I0 fun _ => rfl)
theorem ed_ge {i j : Int} (ha : ED K ta ρ (.int i)) (hb : ED K tb ρ (.int j)) : ED K (tOp (rI0 fun i j => .bl (decide (j ≤ i))) ta tb) ρ (.bool (decide (j ≤ i))) := ed_op ha hb (rv_I0 fun _ => rfl)
/-- == of flat things -/
theorem ed_eq {vx vy : V} {c : Bool} (ha : ED K ta ρ x) (hb : ED K tb ρ y) (h1 : ∀ G v, Rp K G x v → v = vx) (h2 : ∀ G v, Rp K G y v → v = vy) (hs : scal vx vy = true) (hc : decide (vx = vy) = c) : ED K (tOp rEq ta tb) ρ (.bool c) :=
  ed_op ha hb fun G H v w s hx hy Q q => by
    rw [h1 G v hx, h2 G w hy]
    exact ⟨hs, by rw [hc]; exact q _ G H (Grow.refl s) rfl⟩
theorem ed_ne {vx vy : V} {c : Bool} (ha : ED K ta ρ x) (hb : ED K tb ρ y) (h1 : ∀ G v, Rp K G x v → v = vx) (h2 : ∀ G v, Rp K G y v → v = vy) (hs : scal vx vy = true) (hc : (!decide (vx = vy)) = c) : ED K (tOp rNe ta tb) ρ (.bool c) :=
  ed_op ha hb fun G H v w s hx hy Q q => by
    rw [h1 G v hx, h2 G w hy]
    exact ⟨hs, by rw [hc]; exact q _ G H (Grow.refl s) rfl⟩
theorem dec_int (i j : Int) : decide (V.int i = V.int j) = decide (i = j) := decide_eq_decide.mpr ⟨fun h => V.int.inj h, fun h => by rw [h]⟩
theorem dec_str (i j : Str) : decide (V.str i = V.str j) = decide (i = j) := decide_eq_decide.mpr ⟨fun h => V.str.inj h, fun h => by rw [h]⟩
theorem ed_eqI {i j : Int} (ha : ED K ta ρ (.int i)) (hb : ED K tb ρ (.int j)) : ED K (tOp rEq ta tb) ρ (.bool (decide (i = j))) := ed_eq ha hb (fun _ _ h => h) (fun _ _ h => h) rfl (dec_int i j)
theorem ed_neI {i j : Int} (ha : ED K ta ρ (.int i)) (hb : ED K tb ρ (.int j)) : ED K (tOp rNe ta tb) ρ (.bool (!decide (i = j))) := ed_ne ha hb (fun _ _ h => h) (fun _ _ h => h) rfl (by rw [dec_int])
theorem ed_eqS {i j : Str} (ha : ED K ta ρ (.str i)) (hb : ED K tb ρ (.str j)) : ED K (tOp rEq ta tb) ρ (.bool (decide (i = j))) := ed_eq ha hb (fun _ _ h => h) (fun _ _ h => h) rfl (dec_str i j)
theorem ed_neS {i j : Str} (ha : ED K ta ρ (.str i)) (hb : ED K tb ρ (.str j)) : ED K (tOp rNe ta tb) ρ (.bool (!decide (i = j))) := ed_ne ha hb (fun _ _ h => h) (fun _ _ h => h) rfl (by rw [dec_str])
/-- == of data at any depth -/
theorem ed_eqD (ha : ED K ta ρ x) (hb : ED K tb ρ y) (h1 : SeqAt.shaped x = true) (h2 : SeqAt.shaped y = true) : ED K (tOp (rEqD K) ta tb) ρ (.bool (PyData.eqv x y)) :=
  ed_op ha hb fun G H v w s hx hy Q q => ⟨x, y, (hx.mono s).dp (SeqAt.canLay_of_shaped h1), (hy.mono s).dp (SeqAt.canLay_of_shaped h2), h1, h2, q _ G H (Grow.refl s) rfl⟩
theorem ed_neD (ha : ED K ta ρ x) (hb : ED K tb ρ y) (h1 : SeqAt.shaped x = true) (h2 : SeqAt.shaped y = true) : ED K (tOp (rNeD K) ta tb) ρ (.bool (!PyData.eqv x y)) :=
  ed_op ha hb fun G H v w s hx hy Q q => ⟨x, y, (hx.mono s).dp (SeqAt.canLay_of_shaped h1), (hy.mono s).dp (SeqAt.canLay_of_shaped h2), h1, h2, q _ G H (Grow.refl s) rfl⟩
theorem ed_isB {i j : Bool} (ha : ED K ta ρ (.bool i)) (hb : ED K tb ρ (.bool j)) : ED K (tOp rIsB ta tb) ρ (.bool (decide (i = j))) :=
  ed_op ha hb fun G H v w s hx hy Q q => by
    cases hx; cases hy
    exact ⟨i, j, rfl, rfl, q _ G H (Grow.refl s) rfl⟩
theorem ed_notB {i j : Bool} (ha : ED K ta ρ (.bool i)) (hb : ED K tb ρ (.bool j)) : ED K (tOp rNotB ta tb) ρ (.bool (!decide (i = j))) :=
  ed_op ha hb fun G H v w s hx hy Q q => by
    cases hx; cases hy
    exact ⟨i, j, rfl, rfl, q _ G H (Grow.refl s) rfl⟩
/-- t[i], l[i] -/
theorem ed_ixT {i : Int} (ha : ED K ta ρ (.tuple ds)) (hb : ED K tb ρ (.int i)) {j : Nat} (hj : ixN ds.length i = some j) (hd : ds[j]? = some d) : ED K (tOp (rIxT K) ta tb) ρ d :=
  ed_op ha hb fun G H v w s hx hy Q q => by
    cases hy
    obtain ⟨a, xs, rfl, h2, h3, h4⟩ := hx
    obtain ⟨v, hv, rv⟩ := h4.get hd
    exact ⟨a, xs, i, v, rfl, rfl, same_t s h2, by unfold atI; rw [h4.length, hj]; exact hv, q _ G H (Grow.refl s) rv⟩
theorem ed_ixL {i : Int} (ha : ED K ta ρ (.list ds)) (hb : ED K tb ρ (.int i)) {j : Nat} (hj : ixN ds.length i = some j) (hd : ds[j]? = some d) : ED K (tOp (rIxL K) ta tb) ρ d :=
  ed_op ha hb fun G H v w s hx hy Q q => by
    cases hy
    obtain ⟨a, xs, rfl, h2, h3, h4⟩ := hx
    obtain ⟨v, hv, rv⟩ := h4.get hd
    exact ⟨a, xs, i, v, rfl, rfl, SqL.of (s _ _ h2), by unfold atI; rw [h4.length, hj]; exact hv, q _ G H (Grow.refl s) rv⟩
theorem ixN_nat {n j : Nat} (h : j < n) : ixN n (j : Int) = some j := by
  unfold ixN
  simp [h]
end
end D2

set_option Elab.async false
set_option linter.all false
set_option maxRecDepth 100000
set_option maxHeartbeats 4000000
namespace D2
open PySem PySem.Spec PyProof.Rows L2
section
variable {K : PySem.W.Frag} {σ : L2.St} {G G1 G2 H H1 H2 : Hp} {ta tb tc te : TE} {t u : TT} {ρ : Sls K} {d x y z : PyData} {ds es : List PyData} {b c : Bool}
/-! tests -/
theorem et_cmp (h : ED K te ρ (.bool b)) : ET K (tTest te) ρ b := fun H0 σ G H er s Q q => h H0 σ G H er s _ fun v G2 H2 g r => by
  cases r
  exact ⟨b, rfl, q H2 g.hh⟩
theorem et_val (h : ED K te ρ (.bool b)) : ET K (tB te) ρ b := fun H0 σ G H er s Q q => h H0 σ G H er s _ fun v G2 H2 g r => by
  cases r
  exact ⟨b, rfl, q H2 g.hh⟩
/-- the truth of data -/
def truD : PyData → Bool
  | .none => false
  | .bool b => b
  | .int i => i != 0
  | .str x => x.length != 0
  | .list ds => !ds.isEmpty
  | .tuple ds => !ds.isEmpty
  | .dict _ => true
theorem len_nil {α β : Type} {xs : List α} {ys : List β} (h : xs.length = ys.length) : xs.isEmpty = ys.isEmpty := by
  cases xs <;> cases ys <;> simp_all
theorem et_truL (h : ED K te ρ (.list ds)) : ET K (fun σ H Q => te σ H fun x H' => ∃ k, TruV K x H' k ∧ Q k H') ρ (!ds.isEmpty) := fun H0 σ G H er s Q q => h H0 σ G H er s _ fun v G2 H2 g r => by
  obtain ⟨a, xs, rfl, h2, h3, h4⟩ := r
  refine ⟨_, .inl ⟨xs, SqL.of (g.gh _ _ h2), rfl⟩, ?_⟩
  rw [len_nil h4.length]
  exact q H2 g.hh
theorem et_truT (h : ED K te ρ (.tuple ds)) : ET K (fun σ H Q => te σ H fun x H' => ∃ k, TruV K x H' k ∧ Q k H') ρ (!ds.isEmpty) := fun H0 σ G H er s Q q => h H0 σ G H er s _ fun v G2 H2 g r => by
  obtain ⟨a, xs, rfl, h2, h3, h4⟩ := r
  refine ⟨_, .inr (.inl ⟨xs, same_t g.gh h2, rfl⟩), ?_⟩
  rw [len_nil h4.length]
  exact q H2 g.hh
theorem et_truB (h : ED K te ρ (.bool b)) : ET K (fun σ H Q => te σ H fun x H' => ∃ k, TruV K x H' k ∧ Q k H') ρ b := fun H0 σ G H er s Q q => h H0 σ G H er s _ fun v G2 H2 g r => by
  cases r
  exact ⟨_, rfl, q H2 g.hh⟩
theorem et_not (h : ET K t ρ b) : ET K (tNot t) ρ (!b) := fun H0 σ G H er s Q q => h H0 σ G H er s _ fun H2 e => q H2 e
/-- a and b: b is looked at where a holds -/
theorem et_and (h1 : ET K t ρ b) (h2 : b = true → ET K u ρ c) : ET K (tAnd t u) ρ (b && c) := fun H0 σ G H er s Q q => h1 H0 σ G H er s _ fun H2 e => by
  cases b with
  | false => exact iteF (q H2 e)
  | true => exact iteT (h2 rfl H0 σ G H2 (er.quiet s e) (s.trans e) _ fun H3 e3 => q H3 (e.trans e3))
theorem et_or (h1 : ET K t ρ b) (h2 : b = false → ET K u ρ c) : ET K (tOr t u) ρ (b || c) := fun H0 σ G H er s Q q => h1 H0 σ G H er s _ fun H2 e => by
  cases b with
  | true => exact iteT (q H2 e)
  | false => exact iteF (h2 rfl H0 σ G H2 (er.quiet s e) (s.trans e) _ fun H3 e3 => q H3 (e.trans e3))
theorem ed_and (h1 : ED K ta ρ (.bool b)) (h2 : b = true → ED K tb ρ (.bool c)) : ED K (tAndV ta tb) ρ (.bool (b && c)) := fun H0 σ G H er s Q q => h1 H0 σ G H er s _ fun v G2 H2 g r => by
  cases r
  refine ⟨b, rfl, ?_⟩
  cases b with
  | false => exact iteF (q _ G2 H2 g rfl)
  | true => exact iteT (h2 rfl H0 σ G2 H2 (er.grow g) g.gh Q fun v G3 H3 g3 r3 => q v G3 H3 (g.trans g3) r3)
theorem ed_or (h1 : ED K ta ρ (.bool b)) (h2 : b = false → ED K tb ρ (.bool c)) : ED K (tOrV ta tb) ρ (.bool (b || c)) := fun H0 σ G H er s Q q => h1 H0 σ G H er s _ fun v G2 H2 g r => by
  cases r
  refine ⟨b, rfl, ?_⟩
  cases b with
  | true => exact iteT (q _ G2 H2 g rfl)
  | false => exact iteF (h2 rfl H0 σ G2 H2 (er.grow g) g.gh Q fun v G3 H3 g3 r3 => q v G3 H3 (g.trans g3) r3)
theorem ed_not (h : ED K ta ρ (.bool b)) : ED K (tNotV ta) ρ (.bool (!b)) := fun H0 σ G H er s Q q => h H0 σ G H er s _ fun v G2 H2 g r => by
  cases r
  exact ⟨b, rfl, q _ G2 H2 g rfl⟩
theorem ed_if (hc : ET K t ρ b) (h1 : b = true → ED K ta ρ d) (h2 : b = false → ED K tb ρ d) : ED K (tIf t ta tb) ρ d := fun H0 σ G H er s Q q => hc H0 σ G H er s _ fun H2 e => by
  cases b with
  | true => exact iteT (h1 rfl H0 σ G H2 (er.quiet s e) (s.trans e) Q fun v G3 H3 g3 r3 => q v G3 H3 ((Grow.quiet s e).trans g3) r3)
  | false => exact iteF (h2 rfl H0 σ G H2 (er.quiet s e) (s.trans e) Q fun v G3 H3 g3 r3 => q v G3 H3 ((Grow.quiet s e).trans g3) r3)
/-! parts of slices -/
def EDO (K : PySem.W.Frag) (to : TO) (ρ : Sls K) (o : Option Int) : Prop := ∀ H0 σ G H, FrOk K H0 G H ρ σ → Same G H → ∀ Q : Option Int → Hp → Prop, (∀ H2, Same H H2 → Q o H2) → to σ H Q
theorem edo_none : EDO K tNoPart ρ none := fun H0 σ G H er s Q q => q H (Same.refl H)
theorem edo_some {i : Int} (h : ED K te ρ (.int i)) : EDO K (tPart te) ρ (some i) := fun H0 σ G H er s Q q => h H0 σ G H er s _ fun v G2 H2 g r => by
  cases r
  exact ⟨i, rfl, q H2 g.hh⟩
def cutD {α : Type} (xs : List α) (lo hi : Option Int) : List α := (xs.drop (HT.sIx xs.length 0 lo)).take (HT.sIx xs.length xs.length hi - HT.sIx xs.length 0 lo)
theorem RpA.cut {vs : List V} {lo hi : Option Int} (h : RpA K G ds vs) : RpA K G (cutD ds lo hi) (cutV vs lo hi) := by
  unfold cutD cutV
  rw [h.length]
  exact (h.drop _).take _
theorem cut_len {α : Type} (xs : List α) (lo hi : Option Int) : (cutD xs lo hi).length ≤ xs.length := by
  unfold cutD
  rw [List.length_take, List.length_drop]
  omega
theorem ed_slL {lo hi : Option Int} {tl th : TO} (h : ED K te ρ (.list ds)) (h1 : EDO K tl ρ lo) (h2 : EDO K th ρ hi) : ED K (tSl (rSlL K) te tl th) ρ (.list (cutD ds lo hi)) := fun H0 σ G H er s Q q =>
  h H0 σ G H er s _ fun v G2 H2 g r => h1 H0 σ G2 H2 (er.grow g) g.gh _ fun H3 e3 => h2 H0 σ G2 H3 ((er.grow g).quiet g.gh e3) (g.gh.trans e3) _ fun H4 e4 => by
    obtain ⟨a, xs, rfl, r2, r3, r4⟩ := r
    have s4 : Same G2 H4 := (g.gh.trans e3).trans e4
    refine ⟨a, xs, rfl, SqL.of (s4 _ _ r2), fun p hp => q _ _ _ ((g.trans (Grow.quiet g.gh (e3.trans e4))).trans (Grow.new s4 hp)) ⟨p, _, rfl, upd_same, Nat.le_trans (cut_len _ _ _) r3, (r4.cut).mono (same_upd (Same.back s4 hp))⟩⟩
theorem cut_whole {α : Type} {xs : List α} {lo hi : Option Int} (h : HT.sIx xs.length 0 lo = 0 ∧ HT.sIx xs.length xs.length hi = xs.length) : cutD xs lo hi = xs := by
  unfold cutD
  rw [h.1, h.2]
  simp
theorem ed_slT {lo hi : Option Int} {tl th : TO} (h : ED K te ρ (.tuple ds)) (h1 : EDO K tl ρ lo) (h2 : EDO K th ρ hi) : ED K (tSl (rSlA K) te tl th) ρ (.tuple (cutD ds lo hi)) := fun H0 σ G H er s Q q =>
  h H0 σ G H er s _ fun v G2 H2 g r => h1 H0 σ G2 H2 (er.grow g) g.gh _ fun H3 e3 => h2 H0 σ G2 H3 ((er.grow g).quiet g.gh e3) (g.gh.trans e3) _ fun H4 e4 => by
    obtain ⟨a, xs, rfl, r2, r3, r4⟩ := r
    have s4 : Same G2 H4 := (g.gh.trans e3).trans e4
    have hl := r4.length
    refine ⟨a, xs, rfl, same_t s4 r2, fun w => ?_, fun _ p hp => q _ _ _ ((g.trans (Grow.quiet g.gh (e3.trans e4))).trans (Grow.new s4 hp)) ⟨p, _, rfl, upd_same, Nat.le_trans (cut_len _ _ _) r3, (r4.cut).mono (same_upd (Same.back s4 hp))⟩⟩
    rw [hl] at w
    rw [cut_whole w] at q
    exact q _ G2 H4 (g.trans (Grow.quiet g.gh (e3.trans e4))) ⟨a, xs, rfl, r2, r3, r4⟩
theorem ed_rev (h : ED K te ρ (.list ds)) : ED K (tRevL K te) ρ (.list ds.reverse) := fun H0 σ G H er s Q q => h H0 σ G H er s _ fun v G2 H2 g r => by
  obtain ⟨a, xs, rfl, r2, r3, r4⟩ := r
  exact ⟨a, xs, rfl, SqL.of (g.gh _ _ r2), fun p hp => q _ _ _ (g.trans (Grow.new g.gh hp)) ⟨p, _, rfl, upd_same, by rw [List.length_reverse]; exact r3, (r4.reverse).mono (same_upd (Same.back g.gh hp))⟩⟩
/-! + of lists, tuples -/
theorem ed_catL (ha : ED K ta ρ (.list ds)) (hb : ED K tb ρ (.list es)) (hl : (ds ++ es).length ≤ LIM) : ED K (tOp rCat ta tb) ρ (.list (ds ++ es)) := ed_op ha hb fun G H v w s hx hy Q q => by
  obtain ⟨a, xs, rfl, a2, a3, a4⟩ := hx
  obtain ⟨b, ys, rfl, b2, b3, b4⟩ := hy
  refine ⟨a, b, xs, ys, rfl, rfl, s _ _ a2, s _ _ b2, ?_, fun p hp => q _ _ _ (Grow.new s hp) ⟨p, _, rfl, upd_same, hl, (a4.append b4).mono (same_upd (Same.back s hp))⟩⟩
  rw [a4.length, b4.length, ← List.length_append]
  exact lim_le hl
theorem ed_catT (ha : ED K ta ρ (.tuple ds)) (hb : ED K tb ρ (.tuple es)) (hl : (ds ++ es).length ≤ LIM) : ED K (tOp (rCatA K) ta tb) ρ (.tuple (ds ++ es)) := ed_op ha hb fun G H v w s hx hy Q q => by
  obtain ⟨a, xs, rfl, a2, a3, a4⟩ := hx
  obtain ⟨b, ys, rfl, b2, b3, b4⟩ := hy
  have l1 := a4.length
  have l2 := b4.length
  refine ⟨a, b, xs, ys, rfl, rfl, same_t s a2, same_t s b2, ?_, fun e => ?_, fun _ e => ?_, fun _ _ p hp => q _ _ _ (Grow.new s hp) ⟨p, _, rfl, upd_same, hl, (a4.append b4).mono (same_upd (Same.back s hp))⟩⟩
  · rw [l1, l2, ← List.length_append]
    exact lim_le hl
  · subst e
    have : ds = [] := List.length_eq_zero_iff.mp l1.symm
    subst this
    exact q _ G H (Grow.refl s) ⟨b, ys, rfl, b2, b3, b4⟩
  · subst e
    have : es = [] := List.length_eq_zero_iff.mp l2.symm
    subst this
    rw [List.append_nil] at q
    exact q _ G H (Grow.refl s) ⟨a, xs, rfl, a2, a3, a4⟩
/-! built-ins -/
theorem rc_lenL : RC K (fun xs H Q => ∃ p ys, xs = [.ref p] ∧ (SqL K H p ys ∨ SqT K H p ys) ∧ Q (.int ys.length) H) [.list ds] (.int ds.length) := fun G H vs s hv Q q => by
  obtain ⟨v, vs, rfl, ⟨a, xs, rfl, h2, h3, h4⟩, rfl⟩ := hv
  refine ⟨a, xs, rfl, .inl (SqL.of (s _ _ h2)), ?_⟩
  rw [h4.length]
  exact q _ G H (Grow.refl s) rfl
theorem rc_lenT : RC K (fun xs H Q => ∃ p ys, xs = [.ref p] ∧ (SqL K H p ys ∨ SqT K H p ys) ∧ Q (.int ys.length) H) [.tuple ds] (.int ds.length) := fun G H vs s hv Q q => by
  obtain ⟨v, vs, rfl, ⟨a, xs, rfl, h2, h3, h4⟩, rfl⟩ := hv
  refine ⟨a, xs, rfl, .inr (same_t s h2), ?_⟩
  rw [h4.length]
  exact q _ G H (Grow.refl s) rfl
theorem rc_list_l : RC K (fun xs H Q => ∃ p ys, xs = [.ref p] ∧ (SqL K H p ys ∨ SqT K H p ys) ∧ ∀ l, H l = none → Q (.ref l) (upd H l (.lst ys))) [.list ds] (.list ds) := fun G H vs s hv Q q => by
  obtain ⟨v, vs, rfl, ⟨a, xs, rfl, h2, h3, h4⟩, rfl⟩ := hv
  exact ⟨a, xs, rfl, .inl (SqL.of (s _ _ h2)), fun p hp => q _ _ _ (Grow.new s hp) ⟨p, _, rfl, upd_same, h3, h4.mono (same_upd (Same.back s hp))⟩⟩
theorem rc_list_t : RC K (fun xs H Q => ∃ p ys, xs = [.ref p] ∧ (SqL K H p ys ∨ SqT K H p ys) ∧ ∀ l, H l = none → Q (.ref l) (upd H l (.lst ys))) [.tuple ds] (.list ds) := fun G H vs s hv Q q => by
  obtain ⟨v, vs, rfl, ⟨a, xs, rfl, h2, h3, h4⟩, rfl⟩ := hv
  exact ⟨a, xs, rfl, .inr (same_t s h2), fun p hp => q _ _ _ (Grow.new s hp) ⟨p, _, rfl, upd_same, h3, h4.mono (same_upd (Same.back s hp))⟩⟩
theorem rc_tuple_l : RC K (fun xs H Q => ∃ p ys, xs = [.ref p] ∧ ((SqL K H p ys ∧ ∀ l, H l = none → Q (.ref l) (upd H l (.tup ys))) ∨ (SqT K H p ys ∧ Q (.ref p) H))) [.list ds] (.tuple ds) := fun G H vs s hv Q q => by
  obtain ⟨v, vs, rfl, ⟨a, xs, rfl, h2, h3, h4⟩, rfl⟩ := hv
  exact ⟨a, xs, rfl, .inl ⟨SqL.of (s _ _ h2), fun p hp => q _ _ _ (Grow.new s hp) ⟨p, _, rfl, upd_same, h3, h4.mono (same_upd (Same.back s hp))⟩⟩⟩
theorem rc_tuple_t : RC K (fun xs H Q => ∃ p ys, xs = [.ref p] ∧ ((SqL K H p ys ∧ ∀ l, H l = none → Q (.ref l) (upd H l (.tup ys))) ∨ (SqT K H p ys ∧ Q (.ref p) H))) [.tuple ds] (.tuple ds) := fun G H vs s hv Q q => by
  obtain ⟨v, vs, rfl, ⟨a, xs, rfl, h2, h3, h4⟩, rfl⟩ := hv
  exact ⟨a, xs, rfl, .inr ⟨same_t s h2, q _ G H (Grow.refl s) ⟨a, xs, rfl, h2, h3, h4⟩⟩⟩
theorem rc_int {i : Int} : RC K (fun xs H Q => (∃ i, xs = [.int i] ∧ Q (.int i) H) ∨ ∃ k, xs = [.bl k] ∧ Q (.int (if k then 1 else 0)) H) [.int i] (.int i) := fun G H vs s hv Q q => by
  obtain ⟨v, vs, rfl, h, rfl⟩ := hv
  cases h
  exact .inl ⟨i, rfl, q _ G H (Grow.refl s) rfl⟩
theorem rc_sum {ns : List Int} : RC K (rSum K) [.list (ns.map .int)] (.int ns.sum) := fun G H vs s hv Q q => by
  obtain ⟨v, vs, rfl, ⟨a, xs, rfl, h2, h3, h4⟩, rfl⟩ := hv
  have := h4.ints
  subst this
  exact ⟨a, ns, rfl, SqL.of (s _ _ h2), q _ G H (Grow.refl s) rfl⟩
theorem rc_all {bs : List Bool} : RC K (rAll K) [.list (bs.map .bool)] (.bool (bs.all id)) := fun G H vs s hv Q q => by
  obtain ⟨v, vs, rfl, ⟨a, xs, rfl, h2, h3, h4⟩, rfl⟩ := hv
  have := h4.bools
  subst this
  exact ⟨a, bs, rfl, SqL.of (s _ _ h2), q _ G H (Grow.refl s) rfl⟩
theorem rc_any {bs : List Bool} : RC K (rAny K) [.list (bs.map .bool)] (.bool (bs.any id)) := fun G H vs s hv Q q => by
  obtain ⟨v, vs, rfl, ⟨a, xs, rfl, h2, h3, h4⟩, rfl⟩ := hv
  have := h4.bools
  subst this
  exact ⟨a, bs, rfl, SqL.of (s _ _ h2), q _ G H (Grow.refl s) rfl⟩
theorem rc_max2 {i j : Int} : RC K (fun xs H Q => ∃ i j, xs = [.int i, .int j] ∧ Q (.int (if j > i then j else i)) H) [.int i, .int j] (.int (if j > i then j else i)) := fun G H vs s hv Q q => by
  obtain ⟨v, vs, rfl, h, w, ws, rfl, h', rfl⟩ := hv
  cases h; cases h'
  exact ⟨i, j, rfl, q _ G H (Grow.refl s) rfl⟩
theorem rc_min2 {i j : Int} : RC K (fun xs H Q => ∃ i j, xs = [.int i, .int j] ∧ Q (.int (if j < i then j else i)) H) [.int i, .int j] (.int (if j < i then j else i)) := fun G H vs s hv Q q => by
  obtain ⟨v, vs, rfl, h, w, ws, rfl, h', rfl⟩ := hv
  cases h; cases h'
  exact ⟨i, j, rfl, q _ G H (Grow.refl s) rfl⟩
/-! isinstance -/
def isD : PyData → Bool
  | .dict _ => true
  | _ => false
def tyOf : PyData → String
  | .none => "NoneType"
  | .bool _ => "bool"
  | .int _ => "int"
  | .str _ => "str"
  | .list _ => "list"
  | .tuple _ => "tuple"
  | .dict _ => "dict"
theorem ty_of {v : V} : ∀ {d : PyData}, Rp K G d v → isD d = false → TyX K G v (.type (tyOf d))
  | .none, h, _ => by cases h; exact .base .non
  | .bool b, h, _ => by cases h; exact .base (.bl b)
  | .int i, h, _ => by cases h; exact .base (.int i)
  | .str x, h, _ => by cases h; exact .base (.str x)
  | .list _, ⟨a, xs, h1, h2, h3, h4⟩, _ => by cases h1; exact .base (.lst h2)
  | .tuple _, ⟨a, xs, h1, h2, h3, h4⟩, _ => by
    cases h1
    exact .base (.tup h2)
  | .dict _, _, c => by cases c
theorem ed_isi {n : String} {d : PyData} (hn : isD d = false) (ha : ED K ta ρ d) (hk : kitB (tyOf d) n = some b) : ED K (tCB (rIsi K) (tCons ta (tCons (tC (.ty n)) tNil))) ρ (.bool b) := fun H0 σ G H er s Q q =>
  ha H0 σ G H er s _ fun v G2 H2 g r => ⟨v, .ty n, _, _, b, rfl, .ty n, ty_of (r.mono g.gh) hn, kit_ty hk, q _ G2 H2 g rfl⟩
end
end D2

set_option Elab.async false
set_option linter.all false
set_option maxRecDepth 100000
set_option maxHeartbeats 4000000
namespace D2
open PySem PySem.Spec PyProof.Rows L2
/-! ### slots that are stored -/
section
variable {K : PySem.W.Frag} {σ : L2.St} {G G1 G2 H H1 H2 : Hp} {ρ : Sls K} {d : PyData} {v : V}
theorem set_get {α : Type} {xs : List α} {i j : Nat} {x y : α} (h : (xs.set i x)[j]? = some y) : (i = j ∧ y = x ∧ i < xs.length) ∨ (i ≠ j ∧ xs[j]? = some y) := by
  rw [List.getElem?_set] at h
  by_cases e : i = j
  · rw [if_pos e] at h
    split at h
    · rename_i hl
      exact .inl ⟨e, (Option.some.inj h).symm, hl⟩
    · cases h
  · rw [if_neg e] at h
    exact .inr ⟨e, h⟩
theorem FrOk.set {H0 : Hp} (i : Nat) (h : FrOk K H0 G H ρ σ) (r : Rp K G d v) : FrOk K H0 G H (ρ.set i (.da d)) (σ.set i (some v)) := by
  obtain ⟨fps, h1, h2⟩ := h.own
  refine ⟨by simp [h.len], fun j e q => ?_, fps, fun j A q => ?_, fun j k A B hjk q1 q2 => ?_⟩
  · rcases set_get q with ⟨e1, z, hl⟩ | ⟨ne, q⟩
    · subst e1; cases z
      exact ⟨v, by rw [List.getElem?_set, if_pos rfl, if_pos (by rw [h.len]; exact hl)], r⟩
    · obtain ⟨u, e1, e2⟩ := h.get j e q
      exact ⟨u, by rw [List.getElem?_set, if_neg ne]; exact e1, e2⟩
  · rcases set_get q with ⟨_, z, _⟩ | ⟨ne, q⟩
    · cases z
    · obtain ⟨u, e1, e2⟩ := h1 j A q
      exact ⟨u, by rw [List.getElem?_set, if_neg ne]; exact e1, e2⟩
  · rcases set_get q1 with ⟨_, z, _⟩ | ⟨n1, q1⟩
    · cases z
    rcases set_get q2 with ⟨_, z, _⟩ | ⟨n2, q2⟩
    · cases z
    exact h2 j k A B hjk q1 q2
/-- a slot forgotten -/
theorem FrOk.un {H0 : Hp} (i : Nat) (x : Option V) (h : FrOk K H0 G H ρ σ) : FrOk K H0 G H (ρ.set i .un) (σ.set i x) := by
  obtain ⟨fps, h1, h2⟩ := h.own
  refine ⟨by simp [h.len], fun j e q => ?_, fps, fun j A q => ?_, fun j k A B hjk q1 q2 => ?_⟩
  · rcases set_get q with ⟨_, z, _⟩ | ⟨ne, q⟩
    · cases z
    · obtain ⟨u, e1, e2⟩ := h.get j e q
      exact ⟨u, by rw [List.getElem?_set, if_neg ne]; exact e1, e2⟩
  · rcases set_get q with ⟨_, z, _⟩ | ⟨ne, q⟩
    · cases z
    · obtain ⟨u, e1, e2⟩ := h1 j A q
      exact ⟨u, by rw [List.getElem?_set, if_neg ne]; exact e1, e2⟩
  · rcases set_get q1 with ⟨_, z, _⟩ | ⟨n1, q1⟩
    · cases z
    rcases set_get q2 with ⟨_, z, _⟩ | ⟨n2, q2⟩
    · cases z
    exact h2 j k A B hjk q1 q2
def wipeD (ρ : Sls K) : List Nat → Sls K
  | [] => ρ
  | v :: vs => (wipeD ρ vs).set v .un
theorem FrOk.wipe {H0 : Hp} (h : FrOk K H0 G H ρ σ) : ∀ vs : List Nat, FrOk K H0 G H (wipeD ρ vs) (L2.wipe σ vs)
  | [] => h
  | v :: vs => (FrOk.wipe h vs).un v none
theorem wipe_get {σ : L2.St} : ∀ (vs : List Nat) (j : Nat), j ∉ vs → (L2.wipe σ vs)[j]? = σ[j]?
  | [], _, _ => rfl
  | v :: vs, j, h => by
    unfold L2.wipe
    rw [List.getElem?_set, if_neg (fun e => h (by simp [e])), wipe_get vs j (fun q => h (List.mem_cons_of_mem _ q))]
theorem wipe_in {σ : L2.St} : ∀ (vs : List Nat) (j : Nat), j ∈ vs → (L2.wipe σ vs)[j]? = if j < σ.length then some none else none
  | [], _, h => by simp at h
  | v :: vs, j, h => by
    unfold L2.wipe
    rw [List.getElem?_set]
    by_cases e : v = j
    · subst e
      rw [if_pos rfl, L2.wipe_length]
    · rw [if_neg e, wipe_in vs j (by simpa [Ne.symm e] using h)]
theorem wipe_set {σ : L2.St} {i : Nat} {x : Option V} (vs : List Nat) (h : i ∈ vs) : L2.wipe (σ.set i x) vs = L2.wipe σ vs := by
  apply List.ext_getElem?
  intro j
  by_cases hj : j ∈ vs
  · rw [wipe_in vs j hj, wipe_in vs j hj, List.length_set]
  · rw [wipe_get vs j hj, wipe_get vs j hj, List.getElem?_set, if_neg]
    intro e; subst e; exact hj h
end

/-! ### targets -/
def GD (K : PySem.W.Frag) (g : TG) (ρ : Sls K) (d : PyData) (ρ' : Sls K) (vs : List Nat) : Prop := ∀ (H0 : Hp) (σ : L2.St) (G H : Hp) (v : V), FrOk K H0 G H ρ σ → Same G H → Rp K G d v → ∀ Q : L2.St → Hp → Prop,
  (∀ σ', FrOk K H0 G H ρ' σ' → L2.wipe σ' vs = L2.wipe σ vs → Q σ' H) → g v σ H Q
def GDs (K : PySem.W.Frag) (g : TGs) (ρ : Sls K) (ds : List PyData) (ρ' : Sls K) (vs : List Nat) : Prop := ∀ (H0 : Hp) (σ : L2.St) (G H : Hp) (us : List V), FrOk K H0 G H ρ σ → Same G H → RpA K G ds us → ∀ Q : L2.St → Hp → Prop,
  (∀ σ', FrOk K H0 G H ρ' σ' → L2.wipe σ' vs = L2.wipe σ vs → Q σ' H) → g us σ H Q
section
variable {K : PySem.W.Frag} {ρ ρ1 ρ2 : Sls K} {d : PyData} {ds : List PyData} {vs : List Nat}
theorem gd_name {i : Nat} (h : i ∈ vs) : GD K (gName i) ρ d (ρ.set i (.da d)) vs := fun H0 σ G H v er s r Q q => q _ (er.set i r) (wipe_set vs h)
theorem gd_nil : GDs K gNil ρ [] ρ vs := fun H0 σ G H us er s r Q q => ⟨r, q σ er rfl⟩
theorem gd_cons {t : TG} {u : TGs} (h1 : GD K t ρ d ρ1 vs) (h2 : GDs K u ρ1 ds ρ2 vs) : GDs K (gCons t u) ρ (d :: ds) ρ2 vs := fun H0 σ G H us er s r Q q => by
  obtain ⟨v, us, rfl, r1, r2⟩ := r
  refine ⟨v, us, rfl, h1 H0 σ G H v er s r1 _ fun σ1 er1 w1 => h2 H0 σ1 G H us er1 s r2 Q fun σ2 er2 w2 => q σ2 er2 (w2.trans w1)⟩
theorem gd_tup {n : Nat} {t : TGs} (h : GDs K t ρ ds ρ1 vs) (hn : ds.length = n) : GD K (gTup K n t) ρ (.tuple ds) ρ1 vs := fun H0 σ G H v er s r Q q => by
  obtain ⟨a, xs, rfl, r2, r3, r4⟩ := r
  exact ⟨a, xs, rfl, same_t s r2, r4.length.trans hn, h H0 σ G H xs er s r4 Q q⟩
end

/-! ### what is walked -/
structure ItD (K : PySem.W.Frag) (J : It) (G : Hp) (ds : List PyData) : Prop where
  stop : ∀ i H, Same G H → i = ds.length → J.stop i H
  go : ∀ i H, Same G H → i < ds.length → J.go i H
  yld : ∀ i x H H', Same G H → i < ds.length → J.yld i H x H' → ∃ G' d, Grow G H G' H' ∧ ds[i]? = some d ∧ Rp K G' d x
def IT (K : PySem.W.Frag) (wi : TI) (ρ : Sls K) (ds : List PyData) : Prop := ∀ H0 σ G H, FrOk K H0 G H ρ σ → Same G H → ∀ R : It → Hp → Prop, (∀ J G2 H2, Grow G H G2 H2 → ItD K J G2 ds → R J H2) → wi σ H R
section
variable {K : PySem.W.Frag} {G : Hp} {ρ : Sls K} {te : TE} {ta : TA} {ds es : List PyData}
theorem ItD.mono {J : It} {G1 : Hp} (h : ItD K J G ds) (e : Same G G1) : ItD K J G1 ds :=
  ⟨fun i H s => h.stop i H (e.trans s), fun i H s => h.go i H (e.trans s), fun i x H H' s hi y => by
    obtain ⟨G', d, g, e1, r⟩ := h.yld i x H H' (e.trans s) hi y
    obtain ⟨G3, g3, s3⟩ := g.lift e s
    exact ⟨G3, d, g3, e1, r.mono s3⟩⟩
theorem lt_get {α : Type} {xs : List α} {i : Nat} (h : i < xs.length) : ∃ x, xs[i]? = some x := ⟨_, List.getElem?_eq_getElem h⟩
theorem it_list (h : ED K te ρ (.list ds)) : IT K (iList K te) ρ ds := fun H0 σ G H er s R q => h H0 σ G H er s _ fun v G2 H2 g r => by
  obtain ⟨a, xs, rfl, r2, r3, r4⟩ := r
  refine ⟨a, rfl, ⟨xs, SqL.of (g.gh _ _ r2)⟩, q _ G2 H2 g ⟨fun i H s hi => ⟨xs, SqL.of (s _ _ r2), by rw [r4.length]; exact Nat.le_of_eq hi.symm⟩, fun i H s hi => ?_, fun i x H H' s hi y => ?_⟩⟩
  · obtain ⟨x, hx⟩ := lt_get (xs := xs) (i := i) (by rw [r4.length]; exact hi)
    exact ⟨xs, x, SqL.of (s _ _ r2), hx⟩
  · obtain ⟨rfl, y⟩ := y
    obtain ⟨d, hd⟩ := lt_get hi
    obtain ⟨v, hv, rv⟩ := r4.get hd
    have e := y xs (SqL.of (s _ _ r2))
    rw [hv] at e
    cases e
    exact ⟨G2, d, Grow.refl s, hd, rv⟩
theorem it_tup (h : ED K te ρ (.tuple ds)) : IT K (iTup K te) ρ ds := fun H0 σ G H er s R q => h H0 σ G H er s _ fun v G2 H2 g r => by
  obtain ⟨a, xs, rfl, r2, r3, r4⟩ := r
  refine ⟨a, rfl, ⟨xs, same_t g.gh r2⟩, q _ G2 H2 g ⟨fun i H s hi => ⟨xs, same_t s r2, by rw [r4.length]; exact Nat.le_of_eq hi.symm⟩, fun i H s hi => ?_, fun i x H H' s hi y => ?_⟩⟩
  · obtain ⟨x, hx⟩ := lt_get (xs := xs) (i := i) (by rw [r4.length]; exact hi)
    exact ⟨xs, x, same_t s r2, hx⟩
  · obtain ⟨rfl, y⟩ := y
    obtain ⟨d, hd⟩ := lt_get hi
    obtain ⟨v, hv, rv⟩ := r4.get hd
    have e := y xs (same_t s r2)
    rw [hv] at e
    cases e
    exact ⟨G2, d, Grow.refl s, hd, rv⟩
/-- lo, lo + 1, .. -/
def rng (lo : Int) (n : Nat) : List Int := (List.range n).map fun (i : Nat) => lo + (i : Int)
theorem rng_len (lo : Int) (n : Nat) : (rng lo n).length = n := by unfold rng; simp
theorem rng_get {lo : Int} {n i : Nat} (h : i < n) : (rng lo n)[i]? = some (lo + (i : Int)) := by
  unfold rng
  rw [List.getElem?_map, List.getElem?_range h]; rfl
theorem itd_rng {lo : Int} {n : Nat} : ItD K (Itr lo n) G ((rng lo n).map .int) where
  stop := fun i H s hi => show n ≤ i from Nat.le_of_eq (by rw [hi]; simp [rng_len])
  go := fun i H s hi => show i < n by simpa [rng_len] using hi
  yld := fun i x H H' s hi y => by
    obtain ⟨rfl, rfl⟩ := y
    refine ⟨G, .int (lo + (i : Int)), Grow.refl s, ?_, rfl⟩
    rw [List.getElem?_map, rng_get (by simpa [rng_len] using hi)]; rfl
theorem it_rng1 {j : Int} (h : EDA K ta ρ [.int j]) (h1 : -(2 ^ 62) ≤ j) (h2 : j < 2 ^ 62) : IT K (iRng1 ta) ρ ((rng 0 j.toNat).map .int) := fun H0 σ G H er s R q => h H0 σ G H er s _ fun vs G2 H2 g r => by
  obtain ⟨v, vs, rfl, e, rfl⟩ := r
  cases e
  exact ⟨j, rfl, h1, h2, q _ G2 H2 g itd_rng⟩
theorem it_rng2 {i j : Int} (h : EDA K ta ρ [.int i, .int j]) (h1 : -(2 ^ 62) ≤ i ∧ i < 2 ^ 62 ∧ -(2 ^ 62) ≤ j ∧ j < 2 ^ 62) : IT K (iRng2 ta) ρ ((rng i (j - i).toNat).map .int) := fun H0 σ G H er s R q => h H0 σ G H er s _ fun vs G2 H2 g r => by
  obtain ⟨v, vs, rfl, e, v', vs', rfl, e', rfl⟩ := r
  cases e; cases e'
  exact ⟨i, j, rfl, h1, q _ G2 H2 g itd_rng⟩
end

/-! ### list comprehensions -/
theorem take_fm {α β : Type} (f : α → Option β) (xs : List α) (i : Nat) (x : α) (h : xs[i]? = some x) : (xs.take (i + 1)).filterMap f = (xs.take i).filterMap f ++ (f x).toList := by
  rw [List.take_add_one, h, List.filterMap_append]
  cases hf : f x <;> simp [hf]
theorem fm_len {α β : Type} (f : α → Option β) (xs : List α) : (xs.filterMap f).length ≤ xs.length := List.length_filterMap_le f xs
section
variable {K : PySem.W.Frag} {ρ : Sls K} {wi : TI} {g : TG} {tt : TT} {te : TE} {vs : List Nat} {ds : List PyData}
theorem ed_lc {α : Type} {xs : List α} {f : α → PyData} {step : α → Option PyData} (hs : IT K wi ρ (xs.map f)) (hl : xs.length ≤ LIM)
    (hb : ∀ x ∈ xs, ∃ ρ' b, GD K g (wipeD ρ vs) (f x) ρ' vs ∧ ET K tt ρ' b ∧ (b = true → ∃ e, ED K te ρ' e ∧ step x = some e) ∧ (b = false → step x = none)) :
    ED K (tLc wi g tt te vs) ρ (.list (xs.filterMap step)) := fun H0 σ G H er s Q q => hs H0 σ G H er s _ fun J G2 H2 g2 it D hD => by
  have hG2 : G2 D = none := Same.back g2.gh hD
  refine ⟨fun i m Hi => m = xs.length - i ∧ i ≤ xs.length ∧ ∃ Gi acc, Grow G2 H2 Gi Hi ∧ Gi D = none ∧ Hi D = some (.lst acc) ∧ RpA K Gi ((xs.take i).filterMap step) acc, ⟨xs.length, rfl, Nat.zero_le _, G2, [], ?_, hG2, upd_same, rfl⟩, ?_⟩
  · exact Grow.quiet g2.gh (same_upd hD)
  rintro i m Hi ⟨rfl, hi, Gi, acc, gi, hGi, hHi, ra⟩
  by_cases hlt : i < xs.length
  · have hlt' : i < (xs.map f).length := by simpa using hlt
    refine .inr ⟨it.go i Hi (gi.gg.trans gi.gh) hlt', fun H' => ∃ Gi acc, Grow G2 H2 Gi H' ∧ Gi D = none ∧ H' D = some (.lst acc) ∧ RpA K Gi ((xs.take (i + 1)).filterMap step) acc, fun H' ⟨Gi, acc, q1, q2, q3, q4⟩ => ⟨xs.length - (i + 1), by omega, rfl, hlt, Gi, acc, q1, q2, q3, q4⟩, fun x H' y => ?_⟩
    obtain ⟨G', d, g', hd, rx⟩ := (it.mono gi.gg).yld i x Hi H' gi.gh hlt' y
    obtain ⟨x0, hx0⟩ := lt_get hlt
    have ed : d = f x0 := by
      rw [List.getElem?_map, hx0] at hd
      exact (Option.some.inj hd).symm
    subst ed
    have hne : Mu Hi D := .of hHi
    have hG' : G' D = none := g'.sep D hGi hne
    have hH' : H' D = some (.lst acc) := g'.hh _ _ hHi
    obtain ⟨ρ', b, hg, ht, h1, h0⟩ := hb x0 (List.mem_of_getElem? hx0)
    have er' : FrOk K H0 G' H' (wipeD ρ vs) (L2.wipe σ vs) := (er.grow ((g2.trans gi).trans g')).wipe vs
    refine hg H0 (L2.wipe σ vs) G' H' x er' g'.gh rx _ fun σ2 er2 w2 => ⟨?_, ht H0 σ2 G' H' er2 g'.gh _ fun H3 e3 => ?_⟩
    · rw [w2]
      apply List.ext_getElem?
      intro j
      by_cases hj : j ∈ vs
      · rw [wipe_in vs j hj, wipe_in vs j hj, L2.wipe_length]
      · rw [wipe_get vs j hj]
    have gg3 : Grow G2 H2 G' H3 := (gi.trans g').trans (Grow.quiet g'.gh e3)
    cases b with
    | false =>
      refine iteF ⟨G', acc, gg3, hG', e3 _ _ hH', ?_⟩
      rw [take_fm step xs i x0 hx0, h0 rfl]
      simpa using ra.mono g'.gg
    | true =>
      obtain ⟨e, he, hse⟩ := h1 rfl
      refine iteT (he H0 σ2 G' H3 (er2.quiet g'.gh e3) (g'.gh.trans e3) _ fun y G4 H4 g4 ry => ?_)
      have hne3 : Mu H3 D := .of (e3 _ _ hH')
      have hG4 : G4 D = none := g4.sep D hG' hne3
      have hD4 : H4 D = some (.lst acc) := g4.hh _ _ (e3 _ _ hH')
      have lacc : acc.length ≤ LIM := by
        rw [ra.length]
        exact Nat.le_trans (fm_len _ _) (Nat.le_trans (by rw [List.length_take]; omega) hl)
      have gg4 := gg3.trans g4
      refine ⟨acc, hD4, lim_lt lacc, G4, acc ++ [y], ⟨gg4.gg, fun a o z => ?_, fun a o z => ?_, gg4.sep⟩, hG4, upd_same, ?_⟩
      · rw [upd_ne (ne_of_none z hD)]; exact gg4.hh a o z
      · rw [upd_ne (ne_of_none z hG4)]; exact gg4.gh a o z
      · rw [take_fm step xs i x0 hx0, hse]
        exact (ra.mono (g'.gg.trans g4.gg)).snoc ry
  · have e : i = xs.length := by omega
    subst e
    refine .inl ⟨it.stop _ Hi (gi.gg.trans gi.gh) (by simp), ?_⟩
    rw [List.take_length] at ra
    have hne : ∀ a, H2 a ≠ none → a ≠ D := fun a z e => z (by rw [e]; exact hD)
    refine q _ (upd Gi D (.lst acc)) Hi ⟨(g2.gg.trans gi.gg).trans (same_upd hGi), g2.hh.trans gi.hh, fun a o z => ?_, fun a z1 z2 => ?_⟩ ⟨D, acc, rfl, upd_same, Nat.le_trans (fm_len _ _) hl, ra.mono (same_upd hGi)⟩
    · by_cases ha : a = D
      · subst ha; rw [upd_same] at z; cases z; exact hHi
      · rw [upd_ne ha] at z; exact gi.gh a o z
    · have h2 : Mu H2 a := z2.up g2.hh
      rw [upd_ne (hne a h2.ne)]
      exact gi.sep a (g2.sep a z1 z2) h2
/-- [h x for x in xs] -/
theorem ed_lc_map {α : Type} {xs : List α} {f h : α → PyData} (hs : IT K wi ρ (xs.map f)) (hl : xs.length ≤ LIM) (hb : ∀ x ∈ xs, ∃ ρ', GD K g (wipeD ρ vs) (f x) ρ' vs ∧ ED K te ρ' (h x)) :
    ED K (tLc wi g tYes te vs) ρ (.list (xs.map h)) := by
  have e : xs.filterMap (fun x => some (h x)) = xs.map h := by rw [List.filterMap_eq_map']
  rw [← e]
  exact ed_lc hs hl fun x hx => by
    obtain ⟨ρ', h1, h2⟩ := hb x hx
    exact ⟨ρ', true, h1, fun H0 σ G H er s Q q => q H (Same.refl H), fun _ => ⟨h x, h2, rfl⟩, fun z => by cases z⟩
/-- [h x for x in xs if p x] -/
theorem ed_lc_filter {α : Type} {xs : List α} {f h : α → PyData} (p : α → Bool) (hs : IT K wi ρ (xs.map f)) (hl : xs.length ≤ LIM) (hb : ∀ x ∈ xs, ∃ ρ', GD K g (wipeD ρ vs) (f x) ρ' vs ∧ ET K tt ρ' (p x) ∧ (p x = true → ED K te ρ' (h x))) :
    ED K (tLc wi g tt te vs) ρ (.list ((xs.filter p).map h)) := by
  have e : xs.filterMap (fun x => if p x = true then some (h x) else none) = (xs.filter p).map h := by
    rw [← List.filterMap_eq_map', List.filterMap_filter]
  rw [← e]
  exact ed_lc hs hl fun x hx => by
    obtain ⟨ρ', h1, h2, h3⟩ := hb x hx
    exact ⟨ρ', p x, h1, h2, fun z => ⟨h x, h3 z, by rw [if_pos z]⟩, fun z => by rw [if_neg (by rw [z]; exact Bool.false_ne_true)]⟩
end
end D2

set_option Elab.async false
set_option linter.all false
set_option maxRecDepth 100000
set_option maxHeartbeats 4000000
namespace D2
open PySem PySem.Spec PyProof.Rows L2
/-! ### statements -/
/-- how a block ends -/
inductive Out (K : PySem.W.Frag) where
  | nx (ρ : Sls K) | ct (ρ : Sls K) | bk (ρ : Sls K) | rt (d : PyData) | rs (d : PyData) (ρ : Sls K) | ex (c : Str)
def OutOk (K : PySem.W.Frag) (E : XK) (G0 H0 Gs : Hp) (D : Ends) : Out K → Prop
  | .nx ρ => ∀ σ G H, Grow G0 H0 G H → Same Gs G → FrOk K H0 G H ρ σ → D.nx σ H
  | .ct ρ => ∀ σ G H, Grow G0 H0 G H → Same Gs G → FrOk K H0 G H ρ σ → D.ct σ H
  | .bk ρ => ∀ σ G H, Grow G0 H0 G H → Same Gs G → FrOk K H0 G H ρ σ → D.bk σ H
  | .rt d => ∀ v G H, Grow G0 H0 G H → Rp K G d v → D.rt v H
  | .rs d ρ => ∀ v σ G H, Grow G0 H0 G H → FrOk K H0 G H ρ σ → Rp K G d v → D.rt v H
  | .ex c => ∀ C, ClsAt K c C → ∀ H, Same H0 H → E (.ref C) none H
def SD (K : PySem.W.Frag) (E : XK) (ts : TS) (ρ : Sls K) (o : Out K) : Prop := ∀ (G0 H0 : Hp) (D : Ends) (σ : L2.St) (G H : Hp), Grow G0 H0 G H → FrOk K H0 G H ρ σ → OutOk K E G0 H0 G D o → ts D σ H

section
variable {K : PySem.W.Frag} {E : XK} {σ : L2.St} {G G0 G1 G2 H H0 H1 H2 : Hp} {ρ ρ1 ρ2 : Sls K} {d : PyData} {ds : List PyData} {t u tb : TS} {te : TE} {tt : TT} {o : Out K} {b c : Bool}
theorem OutOk.later {D : Ends} (e : Same G G2) (q : OutOk K E G0 H0 G D o) : OutOk K E G0 H0 G2 D o := by
  cases o with
  | nx ρ => exact fun σ G' H g s f => q σ G' H g (e.trans s) f
  | ct ρ => exact fun σ G' H g s f => q σ G' H g (e.trans s) f
  | bk ρ => exact fun σ G' H g s f => q σ G' H g (e.trans s) f
  | rt d => exact q
  | rs d ρ => exact q
  | ex C => exact q
/-- ρ1 says no more than ρ2 -/
def Le {K : PySem.W.Frag} : Sls K → Sls K → Prop
  | [], [] => True
  | a :: r, b :: s => (a = .un ∨ a = b) ∧ Le r s
  | _, _ => False
theorem Le.refl : ∀ ρ : Sls K, Le ρ ρ
  | [] => trivial
  | _ :: r => ⟨.inr rfl, Le.refl r⟩
theorem Le.length : ∀ {a b : Sls K}, Le a b → a.length = b.length
  | [], [], _ => rfl
  | _ :: _, _ :: _, h => by simp [Le.length h.2]
  | [], _ :: _, h => h.elim
  | _ :: _, [], h => h.elim
theorem Le.get : ∀ {a b : Sls K} {i : Nat} {s : Sl K}, Le a b → a[i]? = some s → s = .un ∨ b[i]? = some s
  | [], [], _, _, _, e => by simp at e
  | a :: r, b :: s, 0, x, h, e => by
    have : a = x := by simpa using e
    subst this
    rcases h.1 with z | z
    · exact .inl z
    · subst z; exact .inr rfl
  | a :: r, b :: s, i + 1, x, h, e => by
    have := Le.get (i := i) (s := x) h.2 (by simpa using e)
    simpa using this
  | [], _ :: _, _, _, h, _ => h.elim
  | _ :: _, [], _, _, h, _ => h.elim
theorem FrOk.weak (h : FrOk K H0 G H ρ σ) (l : Le ρ1 ρ) : FrOk K H0 G H ρ1 σ := by
  have ll := l.length
  obtain ⟨fps, h1, h2⟩ := h.own
  refine ⟨by rw [h.len, ll], fun i d q => ?_, fps, fun i A q => ?_, fun i j A B hij q1 q2 => ?_⟩
  · rcases l.get q with z | z
    · cases z
    · exact h.get i d z
  · rcases l.get q with z | z
    · cases z
    · exact h1 i A z
  · rcases l.get q1 with z | z
    · cases z
    rcases l.get q2 with z' | z'
    · cases z'
    exact h2 i j A B hij z z'
theorem SD.weak (h : SD K E t ρ (.nx ρ1)) (l : Le ρ2 ρ1) : SD K E t ρ (.nx ρ2) := fun G0 H0 D σ G H g f q => h G0 H0 D σ G H g f fun σ' G' H' g' s' f' => q σ' G' H' g' s' (f'.weak l)
theorem SD.pre (h : SD K E t ρ o) (l : Le ρ ρ1) : SD K E t ρ1 o := fun G0 H0 D σ G H g f q => h G0 H0 D σ G H g (f.weak l) q
theorem SD.to {o' : Out K} (h : SD K E t ρ o) (e : o = o') : SD K E t ρ o' := e ▸ h

theorem sd_seq (h1 : SD K E t ρ (.nx ρ1)) (h2 : SD K E u ρ1 o) : SD K E (tSeq t u) ρ o := fun G0 H0 D σ G H g f q =>
  h1 G0 H0 { D with nx := u D } σ G H g f fun σ' G' H' g' s' f' => h2 G0 H0 D σ' G' H' g' f' (q.later s')
theorem sd_next : SD K E tNext ρ (.nx ρ) := fun G0 H0 D σ G H g f q => q σ G H g (Same.refl G) f
theorem sd_ret (h : ED K te ρ d) : SD K E (tRet te) ρ (.rt d) := fun G0 H0 D σ G H g f q => h H0 σ G H f g.gh _ fun v G2 H2 g2 r => q v G2 H2 (g.trans g2) r
theorem sd_retN : SD K E tRetN ρ (.rt .none) := fun G0 H0 D σ G H g f q => q _ G H g rfl
theorem sd_ret_seq (h : ED K te ρ d) : SD K E (tSeq (tRet te) u) ρ (.rt d) := fun G0 H0 D σ G H g f q => h H0 σ G H f g.gh _ fun v G2 H2 g2 r => q v G2 H2 (g.trans g2) r
theorem sd_drop (h : ED K te ρ d) : SD K E (tDrop te) ρ (.nx ρ) := fun G0 H0 D σ G H g f q => h H0 σ G H f g.gh _ fun v G2 H2 g2 r => q σ G2 H2 (g.trans g2) g2.gg (f.grow g2)
theorem sd_break : SD K E tBreak ρ (.bk ρ) := fun G0 H0 D σ G H g f q => q σ G H g (Same.refl G) f
theorem sd_cont : SD K E tCont ρ (.ct ρ) := fun G0 H0 D σ G H g f q => q σ G H g (Same.refl G) f
/-- x = e -/
theorem sd_set {i : Nat} (h : ED K te ρ d) : SD K E (tAsg te (gName i)) ρ (.nx (ρ.set i (.da d))) := fun G0 H0 D σ G H g f q =>
  h H0 σ G H f g.gh _ fun v G2 H2 g2 r => q _ G2 H2 (g.trans g2) g2.gg ((f.grow g2).set i r)
theorem sd_par {i j : Nat} {ta : TA} {d e : PyData} (h : EDA K ta ρ [d, e]) : SD K E (tPar i j ta) ρ (.nx ((ρ.set i (.da d)).set j (.da e))) := fun G0 H0 D σ G H g f q =>
  h H0 σ G H f g.gh _ fun vs G2 H2 g2 r => by
    obtain ⟨v, vs, rfl, r1, w, ws, rfl, r2, rfl⟩ := r
    exact ⟨v, w, rfl, q _ G2 H2 (g.trans g2) g2.gg (((f.grow g2).set i r1).set j r2)⟩
theorem sd_if (hc : ET K tt ρ b) (h1 : b = true → SD K E t ρ o) (h2 : b = false → SD K E u ρ o) : SD K E (tIfS tt t u) ρ o := fun G0 H0 D σ G H g f q =>
  hc H0 σ G H f g.gh _ fun H2 e => by
    have g2 := Grow.quiet g.gh e
    cases b with
    | true => exact iteT (h1 rfl G0 H0 D σ G H2 (g.trans g2) (f.grow g2) q)
    | false => exact iteF (h2 rfl G0 H0 D σ G H2 (g.trans g2) (f.grow g2) q)
/-- an if, and what stands behind it, way by way -/
theorem sd_ifs {v : TS} (hc : ET K tt ρ b) (h1 : b = true → SD K E (tSeq t v) ρ o) (h2 : b = false → SD K E (tSeq u v) ρ o) : SD K E (tSeq (tIfS tt t u) v) ρ o := fun G0 H0 D σ G H g f q =>
  hc H0 σ G H f g.gh _ fun H2 e => by
    have g2 := Grow.quiet g.gh e
    cases b with
    | true => exact iteT (h1 rfl G0 H0 D σ G H2 (g.trans g2) (f.grow g2) q)
    | false => exact iteF (h2 rfl G0 H0 D σ G H2 (g.trans g2) (f.grow g2) q)
theorem sd_nexts (h : SD K E u ρ o) : SD K E (tSeq tNext u) ρ o := fun G0 H0 D σ G H g f q => h G0 H0 D σ G H g f q
/-- targets of statements: any slots -/
def GS (K : PySem.W.Frag) (g : TG) (ρ : Sls K) (d : PyData) (ρ' : Sls K) : Prop := ∀ (H0 G H : Hp) (σ : L2.St) (v : V), FrOk K H0 G H ρ σ → Same G H → Rp K G d v → ∀ Q : L2.St → Hp → Prop, (∀ σ', FrOk K H0 G H ρ' σ' → Q σ' H) → g v σ H Q
def GSs (K : PySem.W.Frag) (g : TGs) (ρ : Sls K) (ds : List PyData) (ρ' : Sls K) : Prop := ∀ (H0 G H : Hp) (σ : L2.St) (us : List V), FrOk K H0 G H ρ σ → Same G H → RpA K G ds us → ∀ Q : L2.St → Hp → Prop, (∀ σ', FrOk K H0 G H ρ' σ' → Q σ' H) → g us σ H Q
theorem gs_name {i : Nat} : GS K (gName i) ρ d (ρ.set i (.da d)) := fun H0 G H σ v f s r Q q => q _ (f.set i r)
theorem gs_nil : GSs K gNil ρ [] ρ := fun H0 G H σ us f s r Q q => ⟨r, q σ f⟩
theorem gs_cons {t : TG} {u : TGs} (h1 : GS K t ρ d ρ1) (h2 : GSs K u ρ1 ds ρ2) : GSs K (gCons t u) ρ (d :: ds) ρ2 := fun H0 G H σ us f s r Q q => by
  obtain ⟨v, us, rfl, r1, r2⟩ := r
  exact ⟨v, us, rfl, h1 H0 G H σ v f s r1 _ fun σ1 f1 => h2 H0 G H σ1 us f1 s r2 Q q⟩
theorem gs_tup {n : Nat} {t : TGs} (h : GSs K t ρ ds ρ1) (hn : ds.length = n) : GS K (gTup K n t) ρ (.tuple ds) ρ1 := fun H0 G H σ v f s r Q q => by
  obtain ⟨a, xs, rfl, r2, r3, r4⟩ := r
  exact ⟨a, xs, rfl, same_t s r2, r4.length.trans hn, h H0 G H σ xs f s r4 Q q⟩
theorem sd_asg {g : TG} (h : ED K te ρ d) (hg : GS K g ρ d ρ1) : SD K E (tAsg te g) ρ (.nx ρ1) := fun G0 H0 D σ G H gr f q =>
  h H0 σ G H f gr.gh _ fun v G2 H2 g2 r => hg H0 G2 H2 σ v (f.grow g2) g2.gh r _ fun σ' f' => q σ' G2 H2 (gr.trans g2) g2.gg f'
/-- x op= e -/
theorem sd_aug {i : Nat} {ti : TIp} {x y z : PyData} (hx : ρ[i]? = some (.da x)) (h : ED K te ρ y) (ho : RV K ti x y z) : SD K E (tAug i te ti) ρ (.nx (ρ.set i (.da z))) := fun G0 H0 D σ G H g f q => by
  obtain ⟨vx, e, r⟩ := f.get i x hx
  exact ⟨vx, e, h H0 σ G H f g.gh _ fun vy G2 H2 g2 r2 => ho G2 H2 vx vy g2.gh (r.mono g2.gg) r2 _ fun v G3 H3 g3 r3 => q _ G3 H3 ((g.trans g2).trans g3) (g2.gg.trans g3.gg) (((f.grow g2).grow g3).set i r3)⟩


/-! ### things of our own -/
def minus (H : Hp) (fp : List Addr) : Hp := fun a => if a ∈ fp then none else H a
theorem minus_in {a : Addr} {fp : List Addr} (h : a ∈ fp) : minus H fp a = none := by unfold minus; rw [if_pos h]
theorem minus_out {a : Addr} {fp : List Addr} (h : a ∉ fp) : minus H fp a = H a := by unfold minus; rw [if_neg h]
theorem minus_same {fp : List Addr} (h : Same (minus H fp) H2) {a : Addr} {o : HO} (n : a ∉ fp) (e : H a = some o) : H2 a = some o := h a o (by rw [minus_out n]; exact e)
theorem Same.minus_le {fp : List Addr} : Same (minus H fp) H := fun a o e => by
  by_cases h : a ∈ fp
  · rw [minus_in h] at e; cases e
  · rw [minus_out h] at e; exact e
theorem Same.to_minus {fp : List Addr} (s : Same G H) (h : ∀ p ∈ fp, G p = none) : Same G (minus H fp) := fun a o e => by
  by_cases hm : a ∈ fp
  · rw [h a hm] at e; cases e
  · rw [minus_out hm]; exact s a o e
/-- a step that changes no more than fp is a growth from the entry -/
theorem Grow.over {fp : List Addr} (g : Grow G0 H0 G H) (g2 : Grow G (minus H fp) G2 H2) (h : ∀ p ∈ fp, H0 p = none) : Grow G0 H0 G2 H2 :=
  ⟨g.gg.trans g2.gg, fun a o e => minus_same g2.hh (fun hm => by rw [h a hm] at e; cases e) (g.hh a o e), g2.gh, fun a h1 h2 => g2.sep a (g.sep a h1 h2) ((h2.up g.hh).eq (minus_out fun hm => h2.ne (h a hm)))⟩
theorem Grow.minus {fp : List Addr} (g : Grow G H G2 H2) : Grow G (minus H fp) G2 H2 :=
  ⟨g.gg, fun a o e => g.hh a o (Same.minus_le a o e), g.gh, fun a h1 h2 => g.sep a h1 (h2.up Same.minus_le)⟩
/-- what stands in slot i, and how it may change -/
theorem FrOk.own_at {i : Nat} {A : OwnA K} (h : FrOk K H0 G H ρ σ) (s0 : Same H0 H) (hx : ρ[i]? = some (.ow A)) : ∃ v fp, σ[i]? = some (some v) ∧ A.P G H v fp ∧ (∀ p ∈ fp, G p = none ∧ H0 p = none ∧ Mu H p) ∧
    ∀ (G2 H2 : Hp) (A' : OwnA K) (fp' : List Addr), Grow G (D2.minus H fp) G2 H2 → (∀ p ∈ fp', G2 p = none ∧ Mu H2 p ∧ (p ∈ fp ∨ H p = none)) → A'.P G2 H2 v fp' → FrOk K H0 G2 H2 (ρ.set i (.ow A')) σ := by
  obtain ⟨fps, h1, h2⟩ := h.own
  obtain ⟨v, e1, e2, e3⟩ := h1 i A hx
  have hi : i < ρ.length := (List.getElem?_eq_some_iff.mp hx).1
  refine ⟨v, fps i, e1, e2, e3, fun G2 H2 A' fp' g hf hP => ?_⟩
  have h0p : ∀ p ∈ fp', H0 p = none := fun p hp => by
    rcases (hf p hp).2.2 with z | z
    · exact (e3 p z).2.1
    · exact Same.back s0 z
  have oth : ∀ (j : Nat) B, i ≠ j → ρ[j]? = some (.ow B) → (∃ v, σ[j]? = some (some v) ∧ B.P G2 H2 v (fps j) ∧ ∀ p ∈ fps j, G2 p = none ∧ H0 p = none ∧ Mu H2 p) ∧ ∀ p ∈ fps j, p ∉ fp' := fun j B hij hj => by
    obtain ⟨u, u1, u2, u3⟩ := h1 j B hj
    have nf : ∀ p ∈ fps j, p ∉ fps i := h2 j i B A (Ne.symm hij) hj hx
    have keep : ∀ p ∈ fps j, H2 p = H p := fun p hp => by
      obtain ⟨o, q, _⟩ := (u3 p hp).2.2
      rw [q]; exact minus_same g.hh (nf p hp) q
    refine ⟨⟨u, u1, B.loc u2 g.gg keep, fun p hp => ⟨g.sep p (u3 p hp).1 ((u3 p hp).2.2.eq (minus_out (nf p hp))), (u3 p hp).2.1, (u3 p hp).2.2.eq (keep p hp)⟩⟩, fun p hp hp' => ?_⟩
    rcases (hf p hp').2.2 with z | z
    · exact nf p hp z
    · exact (u3 p hp).2.2.ne z
  refine ⟨by rw [List.length_set]; exact h.len, fun j d q => ?_, fun j => if j = i then fp' else fps j, fun j B q => ?_, fun j k B C hjk q1 q2 => ?_⟩
  · rcases set_get q with ⟨_, z, _⟩ | ⟨_, q⟩
    · cases z
    · obtain ⟨u, u1, u2⟩ := h.get j d q
      exact ⟨u, u1, u2.mono g.gg⟩
  · rcases set_get q with ⟨e, z, _⟩ | ⟨n, q⟩
    · subst e; cases z
      show ∃ v, σ[i]? = some (some v) ∧ A'.P G2 H2 v (if i = i then fp' else fps i) ∧ ∀ p ∈ (if i = i then fp' else fps i), _
      rw [if_pos rfl]
      exact ⟨v, e1, hP, fun p hp => ⟨(hf p hp).1, h0p p hp, (hf p hp).2.1⟩⟩
    · show ∃ v, σ[j]? = some (some v) ∧ B.P G2 H2 v (if j = i then fp' else fps j) ∧ ∀ p ∈ (if j = i then fp' else fps j), _
      rw [if_neg (Ne.symm n)]
      exact (oth j B n q).1
  · show ∀ p ∈ (if j = i then fp' else fps j), p ∉ (if k = i then fp' else fps k)
    rcases set_get q1 with ⟨ej, _, _⟩ | ⟨n1, q1⟩
    · rcases set_get q2 with ⟨ek, _, _⟩ | ⟨n2, q2⟩
      · exact absurd (ej.symm.trans ek) hjk
      · rw [if_pos ej.symm, if_neg (Ne.symm n2)]
        exact fun p hp hp' => (oth k C n2 q2).2 p hp' hp
    · rcases set_get q2 with ⟨ek, _, _⟩ | ⟨n2, q2⟩
      · rw [if_neg (Ne.symm n1), if_pos ek.symm]
        exact fun p hp hp' => (oth j B n1 q1).2 p hp hp'
      · rw [if_neg (Ne.symm n1), if_neg (Ne.symm n2)]
        exact h2 j k B C hjk q1 q2
/-- a new thing of our own comes to slot i -/
theorem FrOk.put {i : Nat} {A : OwnA K} {v : V} {fp : List Addr} (h : FrOk K H0 G H ρ σ) (s0 : Same H0 H) (g : Grow G H G2 H2) (hf : ∀ p ∈ fp, H p = none ∧ G2 p = none ∧ Mu H2 p) (hP : A.P G2 H2 v fp) : FrOk K H0 G2 H2 (ρ.set i (.ow A)) (σ.set i (some v)) := by
  have f := h.grow g
  obtain ⟨fps0, k1, _⟩ := h.own
  obtain ⟨fps, h1, h2⟩ := f.own
  -- the footprints of the others stood before: take those of h
  obtain ⟨fps, h1, h2⟩ := h.own
  have old : ∀ (j : Nat) B, ρ[j]? = some (.ow B) → (∃ v, σ[j]? = some (some v) ∧ B.P G2 H2 v (fps j) ∧ ∀ p ∈ fps j, G2 p = none ∧ H0 p = none ∧ Mu H2 p) ∧ ∀ p ∈ fps j, p ∉ fp := fun j B hj => by
    obtain ⟨u, u1, u2, u3⟩ := h1 j B hj
    have keep : ∀ p ∈ fps j, H2 p = H p := fun p hp => by
      obtain ⟨o, q, _⟩ := (u3 p hp).2.2
      rw [q]; exact g.hh p o q
    exact ⟨⟨u, u1, B.loc u2 g.gg keep, fun p hp => ⟨g.sep p (u3 p hp).1 (u3 p hp).2.2, (u3 p hp).2.1, (u3 p hp).2.2.eq (keep p hp)⟩⟩, fun p hp hp' => (u3 p hp).2.2.ne (hf p hp').1⟩
  refine ⟨by simp [f.len], fun j d q => ?_, fun j => if j = i then fp else fps j, fun j B q => ?_, fun j k B C hjk q1 q2 => ?_⟩
  · rcases set_get q with ⟨_, z, _⟩ | ⟨n, q⟩
    · cases z
    · obtain ⟨u, u1, u2⟩ := f.get j d q
      exact ⟨u, by rw [List.getElem?_set, if_neg n]; exact u1, u2⟩
  · rcases set_get q with ⟨e, z, hl⟩ | ⟨n, q⟩
    · subst e; cases z
      show ∃ w, (σ.set i (some v))[i]? = some (some w) ∧ A.P G2 H2 w (if i = i then fp else fps i) ∧ ∀ p ∈ (if i = i then fp else fps i), _
      rw [if_pos rfl]
      exact ⟨v, by rw [List.getElem?_set, if_pos rfl, if_pos (by rw [f.len]; exact hl)], hP, fun p hp => ⟨(hf p hp).2.1, Same.back s0 (hf p hp).1, (hf p hp).2.2⟩⟩
    · show ∃ w, (σ.set i (some v))[j]? = some (some w) ∧ B.P G2 H2 w (if j = i then fp else fps j) ∧ ∀ p ∈ (if j = i then fp else fps j), _
      rw [if_neg (Ne.symm n), List.getElem?_set, if_neg n]
      exact (old j B q).1
  · show ∀ p ∈ (if j = i then fp else fps j), p ∉ (if k = i then fp else fps k)
    rcases set_get q1 with ⟨ej, _, _⟩ | ⟨n1, q1⟩
    · rcases set_get q2 with ⟨ek, _, _⟩ | ⟨n2, q2⟩
      · exact absurd (ej.symm.trans ek) hjk
      · rw [if_pos ej.symm, if_neg (Ne.symm n2)]
        exact fun p hp hp' => (old k C q2).2 p hp' hp
    · rcases set_get q2 with ⟨ek, _, _⟩ | ⟨n2, q2⟩
      · rw [if_neg (Ne.symm n1), if_pos ek.symm]
        exact fun p hp hp' => (old j B q1).2 p hp hp'
      · rw [if_neg (Ne.symm n1), if_neg (Ne.symm n2)]
        exact h2 j k B C hjk q1 q2
/-- a thing of our own is from now on as it is -/
theorem FrOk.frz {i : Nat} {A : OwnA K} (h : FrOk K H0 G H ρ σ) (hx : ρ[i]? = some (.ow A)) : ∃ v fp, σ[i]? = some (some v) ∧ A.P G H v fp ∧ (∀ p ∈ fp, G p = none ∧ H0 p = none ∧ Mu H p) ∧
    ∀ (G2 H2 : Hp), Same G G2 → Same G2 H2 → (∀ a, a ∉ fp → G2 a = G a) → (∀ a, a ∉ fp → H2 a = H a) → Rp K G2 d v → FrOk K H0 G2 H2 (ρ.set i (.da d)) σ := by
  obtain ⟨fps, h1, h2⟩ := h.own
  obtain ⟨v, e1, e2, e3⟩ := h1 i A hx
  have hi : i < ρ.length := (List.getElem?_eq_some_iff.mp hx).1
  refine ⟨v, fps i, e1, e2, e3, fun G2 H2 s1 s2 hg hh r => ⟨by rw [List.length_set]; exact h.len, fun j d q => ?_, fps, fun j B q => ?_, fun j k B C hjk q1 q2 => ?_⟩⟩
  · rcases set_get q with ⟨e, z, _⟩ | ⟨_, q⟩
    · subst e; cases z
      exact ⟨v, e1, r⟩
    · obtain ⟨u, u1, u2⟩ := h.get j d q
      exact ⟨u, u1, u2.mono s1⟩
  · rcases set_get q with ⟨_, z, _⟩ | ⟨n, q⟩
    · cases z
    · obtain ⟨u, u1, u2, u3⟩ := h1 j B q
      have nf : ∀ p ∈ fps j, p ∉ fps i := h2 j i B A (Ne.symm n) q hx
      exact ⟨u, u1, B.loc u2 s1 fun p hp => hh p (nf p hp), fun p hp => ⟨by rw [hg p (nf p hp)]; exact (u3 p hp).1, (u3 p hp).2.1, (u3 p hp).2.2.eq (hh p (nf p hp))⟩⟩
  · rcases set_get q1 with ⟨_, z, _⟩ | ⟨_, q1⟩
    · cases z
    rcases set_get q2 with ⟨_, z, _⟩ | ⟨_, q2⟩
    · cases z
    exact h2 j k B C hjk q1 q2

/-! ### lists of our own -/
def mlA (K : PySem.W.Frag) (ds : List PyData) : OwnA K where
  P := fun G H v fp => ∃ p vs, v = .ref p ∧ fp = [p] ∧ H p = some (.lst vs) ∧ ds.length ≤ LIM ∧ RpA K G ds vs
  loc := fun ⟨p, vs, h1, h2, h3, h4, h5⟩ s k => ⟨p, vs, h1, h2, (k p (by rw [h2]; simp)).trans h3, h4, h5.mono s⟩
/-- x = [] (or a list display) -/
theorem sd_new {i : Nat} {ta : TA} (h : EDA K ta ρ ds) (hl : ds.length ≤ LIM := by first | decide | (simp only [List.length_cons, List.length_nil, List.length_map]; decide)) : SD K E (tAsg (tLst ta) (gName i)) ρ (.nx (ρ.set i (.ow (mlA K ds)))) := fun G0 H0 D σ G H g f q =>
  h H0 σ G H f g.gh _ fun vs G2 H2 g2 r => ⟨by rw [r.length]; exact lim_le hl, fun p hp => by
    have gp : G2 p = none := Same.back g2.gh hp
    have g3 : Grow G H G2 (upd H2 p (.lst vs)) := g2.trans (Grow.quiet g2.gh (same_upd hp))
    refine q _ G2 _ (g.trans g3) g2.gg (f.put g.hh g3 (fp := [p]) (fun a ha => ?_) ⟨p, vs, rfl, rfl, upd_same, hl, r⟩)
    have : a = p := by simpa using ha
    subst this
    exact ⟨Same.back g2.hh hp, gp, .of upd_same⟩⟩
/-- its items are from now on as they are -/
theorem sd_freeze (i : Nat) (hx : ρ[i]? = some (.ow (mlA K ds))) (h : SD K E t (ρ.set i (.da (.list ds))) o) : SD K E t ρ o := fun G0 H0 D σ G H g f q => by
  obtain ⟨v, fp, a1, ⟨p, vs, rfl, rfl, a4, a5, a6⟩, a3, k⟩ := f.frz (d := .list ds) hx
  have a2 := a3 p (by simp)
  have s1 : Same G (upd G p (.lst vs)) := same_upd a2.1
  have s2 : Same (upd G p (.lst vs)) H := fun a o z => by
    by_cases e : a = p
    · subst e; rw [upd_same] at z; cases z; exact a4
    · rw [upd_ne e] at z; exact g.gh a o z
  have g2 : Grow G0 H0 (upd G p (.lst vs)) H := ⟨g.gg.trans s1, g.hh, s2, fun a z1 z2 => by rw [upd_ne (fun e => z2.ne (by rw [e]; exact a2.2.1))]; exact g.sep a z1 z2⟩
  exact h G0 H0 D σ _ H g2 (k _ H s1 s2 (fun a ha => upd_ne (fun e => ha (by simp [e]))) (fun _ _ => rfl) ⟨p, vs, rfl, upd_same, a5, a6.mono s1⟩) (q.later s1)
/-- x.append(e) -/
theorem sd_append {i : Nat} (hx : ρ[i]? = some (.ow (mlA K ds))) (h : ED K te ρ d) (hl : ds.length + 1 ≤ LIM) :
    SD K E (tDrop (tBM K "list" rAppend (tVar i) (tCons te tNil))) ρ (.nx (ρ.set i (.ow (mlA K (ds ++ [d]))))) := fun G0 H0 D σ G H g f q => by
  obtain ⟨u, fp, a1, ⟨p, vs, rfl, rfl, a4, a5, a6⟩, _⟩ := f.own_at g.hh hx
  refine ⟨.ref p, a1, .inl ⟨rfl, _, SqL.of a4⟩, ?_⟩
  refine h H0 σ G H f g.gh _ fun v G2 H2 g2 r => ?_
  have g3 := g.trans g2
  obtain ⟨u2, fp2, b1, ⟨p2, vs2, rfl, rfl, b4, b5, b6⟩, b3, k⟩ := (f.grow g2).own_at g3.hh hx
  have ep : p2 = p := by rw [a1] at b1; cases b1; rfl
  subst ep
  have hp := b3 p2 (by simp)
  refine ⟨p2, vs2, v, rfl, rfl, b4, ?_, ?_⟩
  · rw [b6.length]; exact lim_lt (by omega)
  have g4 : Grow G2 (D2.minus H2 [p2]) G2 (upd H2 p2 (.lst (vs2 ++ [v]))) := ⟨Same.refl _, fun a o e => by
      by_cases ea : a = p2
      · rw [ea, minus_in (by simp)] at e; cases e
      · rw [upd_ne ea]; rw [minus_out (by simpa using ea)] at e; exact e, fun a o e => by rw [upd_ne (ne_of_none e hp.1)]; exact g3.gh a o e, fun a z1 z2 => z1⟩
  exact q σ G2 _ (g3.over g4 fun a ha => (b3 a ha).2.1) g2.gg (k G2 _ (mlA K (ds ++ [d])) [p2] g4 (fun a ha => by
    have : a = p2 := by simpa using ha
    subst this
    exact ⟨hp.1, .of upd_same, .inl (by simp)⟩) ⟨p2, _, rfl, rfl, upd_same, by rw [List.length_append]; simpa using hl, b6.snoc r⟩)

/-! ### loops -/
/-- a for whose turns go on: S the slots by what is carried -/
theorem sd_for {α β : Type} {wi : TI} {g : TG} {xs : List α} {f : α → PyData} {S : β → Sls K} {step : β → α → β} {b0 : β} (hi : IT K wi ρ (xs.map f)) (l0 : Le (S b0) ρ)
    (hb : ∀ (pre post : List α) (x : α), xs = pre ++ x :: post → ∃ ρ', GS K g (S (pre.foldl step b0)) (f x) ρ' ∧ (SD K E tb ρ' (.nx (S (step (pre.foldl step b0) x))) ∨ SD K E tb ρ' (.ct (S (step (pre.foldl step b0) x))))) :
    SD K E (tFor wi g tb) ρ (.nx (S (xs.foldl step b0))) := fun G0 H0 D σ G H gr fr q => hi H0 σ G H fr gr.gh _ fun J G2 H2 g2 it => by
  refine ⟨fun i m σ' H' => m = xs.length - i ∧ i ≤ xs.length ∧ ∃ G', Grow G0 H0 G' H' ∧ Same G2 G' ∧ FrOk K H0 G' H' (S ((xs.take i).foldl step b0)) σ', ⟨xs.length, rfl, Nat.zero_le _, G2, gr.trans g2, Same.refl _, (fr.grow g2).weak l0⟩, ?_⟩
  rintro i m σ' H' ⟨rfl, hi', G', gr', s', fr'⟩
  by_cases hlt : i < xs.length
  · have hlt' : i < (xs.map f).length := by simpa using hlt
    refine .inr ⟨it.go i H' (s'.trans gr'.gh) hlt', fun σ' H' => ∃ G', Grow G0 H0 G' H' ∧ Same G2 G' ∧ FrOk K H0 G' H' (S ((xs.take (i + 1)).foldl step b0)) σ', fun σ' H' ⟨G', a, b, c⟩ => ⟨xs.length - (i + 1), by omega, rfl, hlt, G', a, b, c⟩, fun x H3 y => ?_⟩
    obtain ⟨G3, d, g3, hd, rx⟩ := (it.mono s').yld i x H' H3 gr'.gh hlt' y
    obtain ⟨x0, hx0⟩ := lt_get hlt
    have ed : d = f x0 := by
      rw [List.getElem?_map, hx0] at hd
      exact (Option.some.inj hd).symm
    subst ed
    have ex : xs = xs.take i ++ x0 :: xs.drop (i + 1) := by
      have := List.getElem?_eq_some_iff.mp hx0
      obtain ⟨h1, h2⟩ := this
      rw [← h2, List.getElem_cons_drop, List.take_append_drop]
    obtain ⟨ρ', hg, hs⟩ := hb _ _ x0 ex
    have et : (xs.take (i + 1)).foldl step b0 = step ((xs.take i).foldl step b0) x0 := by rw [List.take_add_one, hx0, List.foldl_append]; rfl
    refine hg H0 G3 H3 σ' x (fr'.grow g3) g3.gh rx _ fun σ2 fr2 => ?_
    rw [et]
    -- the turn, relative to what stood at its start: the list that is walked stays known
    rcases hs with hs | hs
    · exact hs G0 H0 _ σ2 G3 H3 (gr'.trans g3) fr2 fun σ4 G4 H4 g4 s4 f4 => ⟨G4, g4, (s'.trans g3.gg).trans s4, f4⟩
    · exact hs G0 H0 _ σ2 G3 H3 (gr'.trans g3) fr2 fun σ4 G4 H4 g4 s4 f4 => ⟨G4, g4, (s'.trans g3.gg).trans s4, f4⟩
  · have e : i = xs.length := by omega
    subst e
    rw [List.take_length] at fr'
    exact .inl ⟨it.stop _ H' (s'.trans gr'.gh) (by simp), q σ' G' H' gr' (g2.gg.trans s') fr'⟩
end
end D2

set_option Elab.async false
set_option linter.all false
set_option maxRecDepth 100000
set_option maxHeartbeats 4000000
namespace D2
open PySem PySem.Spec PyProof.Rows L2
section
variable {K : PySem.W.Frag} {E : XK} {σ : L2.St} {G G0 G1 G2 H H0 H1 H2 : Hp} {ρ ρ1 ρ2 : Sls K} {d : PyData} {ds : List PyData} {t u tb v : TS} {te : TE} {tt : TT} {o : Out K} {b c : Bool}
/-- a for whose turns may leave the def: a turn goes on with a state, or hands back data -/
theorem sd_forE {α β : Type} {wi : TI} {g : TG} {xs : List α} {f : α → PyData} {S : β → Sls K} {step : β → α → Except PyData β} {b0 : β} (hi : IT K wi ρ (xs.map f)) (l0 : Le (S b0) ρ)
    (hb : ∀ (pre post : List α) (x : α) (s : β), xs = pre ++ x :: post → pre.foldlM step b0 = .ok s → ∃ ρ', GS K g (S s) (f x) ρ' ∧ match step s x with | .ok s' => (SD K E tb ρ' (.nx (S s')) ∨ SD K E tb ρ' (.ct (S s'))) | .error d => SD K E tb ρ' (.rt d))
    (he : ∀ d, xs.foldlM step b0 = .error d → o = .rt d) (hn : ∀ s, xs.foldlM step b0 = .ok s → SD K E v (S s) o) : SD K E (tSeq (tFor wi g tb) v) ρ o := fun G0 H0 D σ G H gr fr q => hi H0 σ G H fr gr.gh _ fun J G2 H2 g2 it => by
  refine ⟨fun i m σ' H' => m = xs.length - i ∧ i ≤ xs.length ∧ ∃ s G', (xs.take i).foldlM step b0 = .ok s ∧ Grow G0 H0 G' H' ∧ Same G2 G' ∧ FrOk K H0 G' H' (S s) σ', ⟨xs.length, rfl, Nat.zero_le _, b0, G2, rfl, gr.trans g2, Same.refl _, (fr.grow g2).weak l0⟩, ?_⟩
  rintro i m σ' H' ⟨rfl, hi', s, G', es, gr', s', fr'⟩
  by_cases hlt : i < xs.length
  · have hlt' : i < (xs.map f).length := by simpa using hlt
    refine .inr ⟨it.go i H' (s'.trans gr'.gh) hlt', fun σ' H' => ∃ s G', (xs.take (i + 1)).foldlM step b0 = .ok s ∧ Grow G0 H0 G' H' ∧ Same G2 G' ∧ FrOk K H0 G' H' (S s) σ', fun σ' H' ⟨s, G', a, b, c⟩ => ⟨xs.length - (i + 1), by omega, rfl, hlt, s, G', a, b, c⟩, fun x H3 y => ?_⟩
    obtain ⟨G3, d, g3, hd, rx⟩ := (it.mono s').yld i x H' H3 gr'.gh hlt' y
    obtain ⟨x0, hx0⟩ := lt_get hlt
    have ed : d = f x0 := by
      rw [List.getElem?_map, hx0] at hd
      exact (Option.some.inj hd).symm
    subst ed
    have ex : xs = xs.take i ++ x0 :: xs.drop (i + 1) := by
      have := List.getElem?_eq_some_iff.mp hx0
      obtain ⟨h1, h2⟩ := this
      rw [← h2, List.getElem_cons_drop, List.take_append_drop]
    have et : (xs.take (i + 1)).foldlM step b0 = step s x0 := by
      rw [List.take_add_one, hx0, List.foldlM_append, es]
      show (List.foldlM step s [x0]) = step s x0
      rw [List.foldlM_cons]
      cases step s x0 <;> rfl
    obtain ⟨ρ', hg, hs⟩ := hb _ _ x0 s ex es
    refine hg H0 G3 H3 σ' x (fr'.grow g3) g3.gh rx _ fun σ2 fr2 => ?_
    rw [et]
    cases hst : step s x0 with
    | ok s2 =>
      rw [hst] at hs
      rcases hs with hs | hs
      · exact hs G0 H0 _ σ2 G3 H3 (gr'.trans g3) fr2 fun σ4 G4 H4 g4 s4 f4 => ⟨s2, G4, rfl, g4, (s'.trans g3.gg).trans s4, f4⟩
      · exact hs G0 H0 _ σ2 G3 H3 (gr'.trans g3) fr2 fun σ4 G4 H4 g4 s4 f4 => ⟨s2, G4, rfl, g4, (s'.trans g3.gg).trans s4, f4⟩
    | error d =>
      rw [hst] at hs
      have ef : xs.foldlM step b0 = .error d := by
        conv => lhs; rw [ex]
        rw [List.foldlM_append, es]
        show (List.foldlM step s (x0 :: xs.drop (i + 1))) = _
        rw [List.foldlM_cons, hst]; rfl
      have q' := q
      rw [he d ef] at q'
      exact hs G0 H0 _ σ2 G3 H3 (gr'.trans g3) fr2 q'
  · have e : i = xs.length := by omega
    subst e
    rw [List.take_length] at es
    exact .inl ⟨it.stop _ H' (s'.trans gr'.gh) (by simp), hn s es G0 H0 D σ' G' H' gr' fr' (q.later (g2.gg.trans s'))⟩

/-- a while: P holds ahead of each test, μ falls -/
theorem sd_while {β : Type} {S : β → Sls K} {P : β → Prop} {μ : β → Nat} {cnd : β → Bool} {step : β → β} {b0 : β} (h0 : P b0) (l0 : Le (S b0) ρ) (hc : ∀ b, P b → ET K tt (S b) (cnd b))
    (hb : ∀ b, P b → cnd b = true → SD K E tb (S b) (.nx (S (step b))) ∧ P (step b) ∧ μ (step b) < μ b) (hn : ∀ b, P b → cnd b = false → SD K E v (S b) o) : SD K E (tSeq (tWhile tt tb) v) ρ o := fun G0 H0 D σ G H gr fr q => by
  refine ⟨fun m σ' H' => ∃ b G', m = μ b ∧ P b ∧ Grow G0 H0 G' H' ∧ Same G G' ∧ FrOk K H0 G' H' (S b) σ', ⟨_, b0, G, rfl, h0, gr, Same.refl G, fr.weak l0⟩, ?_⟩
  rintro m σ' H' ⟨b, G', rfl, p, gr', s', fr'⟩
  refine hc b p H0 σ' G' H' fr' gr'.gh _ fun H3 e3 => ?_
  have g3 := gr'.trans (Grow.quiet gr'.gh e3)
  have f3 := fr'.grow (Grow.quiet gr'.gh e3)
  cases hcb : cnd b with
  | false => exact iteF (hn b p hcb G0 H0 D σ' G' H3 g3 f3 (q.later s'))
  | true =>
    obtain ⟨hs, p', l⟩ := hb b p hcb
    refine iteT ⟨fun σ4 H4 => ∃ G4, Grow G0 H0 G4 H4 ∧ Same G' G4 ∧ FrOk K H0 G4 H4 (S (step b)) σ4, fun σ4 H4 ⟨G4, a, b', c⟩ => ⟨_, l, step b, G4, rfl, p', a, s'.trans b', c⟩, ?_⟩
    exact hs G0 H0 _ σ' G' H3 g3 f3 fun σ4 G4 H4 g4 s4 f4 => ⟨G4, g4, s4, f4⟩
end

/-! ### defs -/
inductive Res where
  | val (d : PyData) | exc (c : Str)
/-- the promise of a def over data: R tells arguments and answer -/
def spD (K : PySem.W.Frag) (R : List PyData → Res → Prop) : Sp := fun vs H Q E => ∃ G ds r, Same G H ∧ RpA K G ds vs ∧ R ds r ∧
  match r with
  | .val d => ∀ v G2 H2, Grow G H G2 H2 → Rp K G2 d v → Q v H2
  | .exc c => ∀ C, ClsAt K c C → ∀ H2, Same H H2 → E (.ref C) none H2
theorem ed_call {K : PySem.W.Frag} {R : List PyData → Res → Prop} {E : XK} {t : TA} {ρ : Sls K} {ds : List PyData} {d : PyData} (ha : EDA K t ρ ds) (hr : R ds (.val d)) : ED K (tCall (spD K R) [] E t) ρ d := fun H0 σ G H er s Q q =>
  ha H0 σ G H er s _ fun vs G2 H2 g2 r => ⟨G2, ds, .val d, g2.gh, by rw [List.append_nil]; exact r, hr, fun v G3 H3 g3 r3 => q v G3 H3 (g2.trans g3) r3⟩
/-- an expression that raises -/
def EX (K : PySem.W.Frag) (E : XK) (te : TE) (ρ : Sls K) (c : Str) : Prop := ∀ H0 σ G H, FrOk K H0 G H ρ σ → Same G H → ∀ Q : VK, (∀ C, ClsAt K c C → ∀ H2, Same H H2 → E (.ref C) none H2) → te σ H Q
theorem ex_call {K : PySem.W.Frag} {R : List PyData → Res → Prop} {E : XK} {t : TA} {ρ : Sls K} {ds : List PyData} {c : Str} (ha : EDA K t ρ ds) (hr : R ds (.exc c)) : EX K E (tCall (spD K R) [] E t) ρ c := fun H0 σ G H er s Q q =>
  ha H0 σ G H er s _ fun vs G2 H2 g2 r => ⟨G2, ds, .exc c, g2.gh, by rw [List.append_nil]; exact r, hr, fun C hC H3 e3 => q C hC H3 (g2.hh.trans e3)⟩
section
variable {K : PySem.W.Frag} {E : XK} {ρ : Sls K} {te : TE} {c : Str} {u : TS}
theorem sd_dropX (h : EX K E te ρ c) : SD K E (tDrop te) ρ (.ex c) := fun G0 H0 D σ G H g f q => h H0 σ G H f g.gh _ fun C hC H2 e => q C hC H2 (g.hh.trans e)
theorem sd_dropX_seq (h : EX K E te ρ c) : SD K E (tSeq (tDrop te) u) ρ (.ex c) := fun G0 H0 D σ G H g f q => h H0 σ G H f g.gh _ fun C hC H2 e => q C hC H2 (g.hh.trans e)
theorem sd_asgX_seq {g : TG} (h : EX K E te ρ c) : SD K E (tSeq (tAsg te g) u) ρ (.ex c) := fun G0 H0 D σ G H gr f q => h H0 σ G H f gr.gh _ fun C hC H2 e => q C hC H2 (gr.hh.trans e)
theorem sd_retX (h : EX K E te ρ c) : SD K E (tRet te) ρ (.ex c) := fun G0 H0 D σ G H g f q => h H0 σ G H f g.gh _ fun C hC H2 e => q C hC H2 (g.hh.trans e)
end
def startS {K : PySem.W.Frag} (ds : List PyData) (n : Nat) : Sls K := ds.map .da ++ List.replicate (n - ds.length) .un
theorem start_no {K : PySem.W.Frag} {ds : List PyData} {n i : Nat} {A : OwnA K} (q : (startS ds n)[i]? = some (.ow A)) : False := by
  unfold startS at q
  by_cases hi : i < ds.length
  · rw [List.getElem?_append_left (by simpa using hi), List.getElem?_map] at q
    cases e : ds[i]? with
    | none => rw [e] at q; cases q
    | some x => rw [e] at q; cases q
  · rw [List.getElem?_append_right (by simpa using Nat.le_of_not_lt hi), List.getElem?_replicate] at q
    split at q <;> cases q
theorem start_get {K : PySem.W.Frag} {G : Hp} {N : List Str} {ds : List PyData} {vs : List V} (r : RpA K G ds vs) {i : Nat} {d : PyData} (q : (startS (K := K) ds N.length)[i]? = some (.da d)) : ∃ v, (L2.start N vs)[i]? = some (some v) ∧ Rp K G d v := by
  have rl := r.length
  unfold startS at q
  by_cases hi : i < ds.length
  · rw [List.getElem?_append_left (by simpa using hi), List.getElem?_map] at q
    cases e : ds[i]? with
    | none => rw [e] at q; cases q
    | some x =>
      rw [e] at q
      have : x = d := by cases q; rfl
      subst this
      obtain ⟨v, hv, rv⟩ := r.get e
      refine ⟨v, ?_, rv⟩
      unfold L2.start
      rw [List.getElem?_append_left (by simpa [rl] using hi), List.getElem?_map, hv]; rfl
  · rw [List.getElem?_append_right (by simpa using Nat.le_of_not_lt hi), List.getElem?_replicate] at q
    split at q <;> cases q
theorem start_ok {K : PySem.W.Frag} {G H0 H : Hp} {N : List Str} {ds : List PyData} {vs : List V} (r : RpA K G ds vs) : FrOk K H0 G H (startS ds N.length) (L2.start N vs) :=
  ⟨by unfold startS L2.start; simp [r.length], fun i d q => start_get r q, fun _ => [], fun i A q => (start_no q).elim, fun i j A B _ q => (start_no q).elim⟩
def resO {K : PySem.W.Frag} : Res → Out K
  | .val d => .rt d
  | .exc c => .ex c
/-- a def as callers see it -/
structure DefOk (P : Program) (w : World) (K : PySem.W.Frag) (mg : Str → Option Value) (base : Heap) (x : Str) (ps : List Str) (k : Nat) (R : List PyData → Res → Prop) : Prop where
  ex : ∃ f fd, FnOk P w K mg base (L2.CX P w) k f fd ps (spD K R) ∧ Binds K fd ps [] ∧ mg x = some (.ref f) ∧ PySem.W.keepIn K (.ref f) = true
/-- a def of the text, as the top leaves it -/
structure DefAt (K : PySem.W.Frag) (mg : Str → Option Value) (x : Str) (st : Stmt) (ps : List Str) : Prop where
  ex : ∃ f fd, Fun K x x st f fd ∧ Binds K fd ps [] ∧ mg x = some (.ref f)
section
variable {P : Program} {w : World} {K : PySem.W.Frag} {mg : Str → Option Value} {base : Heap}
/-- THE RULE for a def over data; the body falls through to None where o is nx -/
theorem okF {x : Str} {st : Stmt} {N ps : List Str} {k : Nat} {R : List PyData → Res → Prop} {f : Addr} {fd : FuncData} (F : Fun K x x st f fd) (S : FnScope N ps (defScope st)) (hps : ps.length ≤ N.length) (len : ∀ ds r, R ds r → ds.length = ps.length)
    (hbody : ∀ (f : Addr) (cdv : Value) (Ar : Around) (outer : List PySem.Env) (s : Shared) (H : Hp) (E : XK), Room k (Ar.deeper (envOfC x (defScope st) s.heap.objs.size f cdv)) →
      ∃ t, PSs (cxOf (L2.CX P w) P w K mg base N x (defScope st) f cdv Ar outer s H E) (defBody st) t ∧ ∀ ds r, R ds r → (SD K E t (startS ds N.length) (resO r) ∨ (r = .val .none ∧ ∃ ρ, SD K E t (startS ds N.length) (.nx ρ)))) :
    FnOk P w K mg base (L2.CX P w) (k + 1) f fd ps (spD K R) := by
  refine F.okX S (fun vs H Q E ⟨G, ds, r, s, ra, hr, _⟩ => ra.length.trans (len ds r hr)) (fun cdv Ar outer s H vs Q E hrm ⟨G, ds, r, sg, ra, hR, q⟩ => ?_)
  obtain ⟨t, h1, h2⟩ := hbody f cdv Ar outer s H E hrm
  have hl : ds.length ≤ N.length := by rw [len ds r hR]; exact hps
  refine ⟨t, h1, ?_⟩
  rcases h2 ds r hR with h2 | ⟨rfl, ρ, h2⟩
  · refine h2 G H _ (L2.start N vs) G H (Grow.refl sg) (start_ok ra) ?_
    cases r with
    | val d => exact fun v G2 H2 g r => q v G2 H2 g r
    | exc c => exact fun C hC H2 e => q C hC H2 e
  · exact h2 G H _ (L2.start N vs) G H (Grow.refl sg) (start_ok ra) fun σ G2 H2 g _ _ => q _ G2 H2 g rfl
theorem DefAt.ok {x : Str} {st : Stmt} {N ps : List Str} {k : Nat} {R : List PyData → Res → Prop} (A : DefAt K mg x st ps) (S : FnScope N ps (defScope st)) (hps : ps.length ≤ N.length) (len : ∀ ds r, R ds r → ds.length = ps.length)
    (hbody : ∀ (f : Addr) (cdv : Value) (Ar : Around) (outer : List PySem.Env) (s : Shared) (H : Hp) (E : XK), Room k (Ar.deeper (envOfC x (defScope st) s.heap.objs.size f cdv)) →
      ∃ t, PSs (cxOf (L2.CX P w) P w K mg base N x (defScope st) f cdv Ar outer s H E) (defBody st) t ∧ ∀ ds r, R ds r → (SD K E t (startS ds N.length) (resO r) ∨ (r = .val .none ∧ ∃ ρ, SD K E t (startS ds N.length) (.nx ρ)))) :
    DefOk P w K mg base x ps (k + 1) R := by
  obtain ⟨f, fd, F, B, M⟩ := A.ex
  exact ⟨f, fd, okF F S hps len hbody, B, M, F.kp⟩
/-- from the head's facts -/
theorem at_mk {x : Str} {st : Stmt} {ps : List Str} {h : Heap} {f : Addr} {oc : Value} {od an : Option Addr} {osl : Array (Option Value)} {kV doc pm cdv ct : Value} (X : K.In h) (G : h.Ns mainGlobals mg)
    (hb : ∀ (kV doc pm : Value) (an : Option Addr) (cdv ct : Value) (us : List Value), us.length = ps.length → bindArgs (PySem.W.fnOf x x (defArgs st) (defBody st) (defScope st) .none kV doc pm an cdv ct) ⟨us, []⟩ = pure (ps.zip us))
    (a : PySem.W.nsIn K mainGlobals x = some (some (.ref f))) (l : K.lookup f = some ⟨oc, od, .func (PySem.W.fnOf x x (defArgs st) (defBody st) (defScope st) .none kV doc pm an cdv ct), osl⟩) (c : PySem.W.codeIn K cdv x = true) (k : PySem.W.keepIn K (.ref f) = true) : DefAt K mg x st ps := by
  have F := fun_mk (st := st) l c k
  exact ⟨f, _, F, F.binds hb, PySem.W.mg_of X G a⟩
end
section
variable {X : Cx} {x : Str} {ps : List Str} {k : Nat} {R : List PyData → Res → Prop} {E : XK} {e : Expr} {es : List Expr} {t : TA} {p pos : Pos} {P : Program} {w : World} {K : PySem.W.Frag} {mg : Str → Option Value} {base : Heap}
/-- f(e, ..) -/
theorem pe_callD (h : DefOk P w K mg base x ps k R) (hr : Room k X.A) (hg : Gl X x) (hx : Passes (L2.CX X.prog X.w) X E) (ha : PA X (e :: es) t) (hX : X.prog = P ∧ X.w = w ∧ X.K = K ∧ X.mg = mg ∧ X.base = base := by exact ⟨rfl, rfl, rfl, rfl, rfl⟩) (hdb : (x == ("__debug__" : Str)) = false := by decide)
    (he : starEach (e :: es) X.env = (false, eval e X.env) :: starEach es X.env := by rfl) (hpl : (backTo pos (starEach es X.env)).any (·.1) = false := by rfl) : PE X (.Call (.Name x p) (e :: es) [] pos) (tCall (spD K R) [] E t) := by
  obtain ⟨rfl, rfl, rfl, rfl, rfl⟩ := hX
  obtain ⟨f, fd, F, B, M, Kp⟩ := h.ex
  exact pe_call F hr hg M Kp B .nil hx ha hdb he hpl
end
end D2

set_option Elab.async false
set_option linter.all false
set_option maxRecDepth 100000
set_option maxHeartbeats 4000000
namespace D2
open PySem PySem.Spec PyProof.Rows L2
section
variable {X : Cx}
/-- a loop's turn in a def that may raise -/
theorem PW0 {E₁ : Value → Shared → Prop} {Kx : Value → Shared → Prop} (hx : X.xe = fun e s' => wpAny (model X.prog X.w) X.A (leaving X.env e) (fun _ s'' => Kx e s'') E₁ s' := by rfl) : PassesOwn (model X.prog X.w) X.A X.env X.xe := passes_of hx
end
/-! ### the hand layer's rules over a written part that is named -/
section
variable {X : Cx} {K : PySem.W.Frag}
theorem k_ixL (h : X.K = K := by rfl) : IxR X (rIxL K) := h ▸ ix_list
theorem k_ixT (h : X.K = K := by rfl) : IxR X (rIxT K) := h ▸ ix_tup
theorem k_slL (h : X.K = K := by rfl) : SlR X (rSlL K) := h ▸ sl_list
theorem k_slT (h : X.K = K := by rfl) : SlR X (rSlA K) := h ▸ sl_tupA
theorem k_catT (h : X.K = K := by rfl) : OpR X (binaryOp .Add) (rCatA K) := h ▸ op_catA
theorem k_eqD (hu : X.A.units + 64 < cLine) (h : X.K = K := by rfl) : OpR X (compareOp .Eq) (rEqD K) := h ▸ op_eqD hu
theorem k_neD (hu : X.A.units + 64 < cLine) (h : X.K = K := by rfl) : OpR X (compareOp .NotEq) (rNeD K) := h ▸ op_neD hu
theorem k_len (h : X.K = K := by rfl) : CallR X (.builtin "len") (fun xs H Q => ∃ p ys, xs = [.ref p] ∧ (SqL K H p ys ∨ SqT K H p ys) ∧ Q (.int ys.length) H) := h ▸ call_len_seq
theorem k_listOf (h : X.K = K := by rfl) : CallR X (.type "list") (fun xs H Q => ∃ p ys, xs = [.ref p] ∧ (SqL K H p ys ∨ SqT K H p ys) ∧ ∀ l, H l = none → Q (.ref l) (upd H l (.lst ys))) := h ▸ call_list_of
theorem k_tupOf (h : X.K = K := by rfl) : CallR X (.type "tuple") (fun xs H Q => ∃ p ys, xs = [.ref p] ∧ ((SqL K H p ys ∧ ∀ l, H l = none → Q (.ref l) (upd H l (.tup ys))) ∨ (SqT K H p ys ∧ Q (.ref p) H))) := h ▸ call_tuple_of
theorem k_sum (hc : X.calm = true := by rfl) (h : X.K = K := by rfl) : CallR X (.builtin "sum") (rSum K) := h ▸ cr_sum hc
theorem k_all (hc : X.calm = true := by rfl) (h : X.K = K := by rfl) : CallR X (.builtin "all") (rAll K) := h ▸ cr_all hc
theorem k_any (hc : X.calm = true := by rfl) (h : X.K = K := by rfl) : CallR X (.builtin "any") (rAny K) := h ▸ cr_any hc
theorem k_isi (h : X.K = K := by rfl) : CallR X (.builtin "isinstance") (rIsi K) := h ▸ call_isi
theorem k_list {tg l : Expr} {tl : TE} (hl : PE X l tl) (h : X.K = K := by rfl) : PI X tg l (iList K tl) := h ▸ pi_list hl
theorem k_tup {tg l : Expr} {tl : TE} (hl : PE X l tl) (h : X.K = K := by rfl) : PI X tg l (iTup K tl) := h ▸ pi_tup hl
theorem k_truth {a : Expr} {ta : TE} (ha : PE X a ta) (he : ∀ whole, isTrue a X.env whole = (do let v ← whole; standAt a.pos; holding [v] (truthy v)) := by intro _; rfl) (h : X.K = K := by rfl) : PT X a (fun σ H Q => ta σ H fun x H' => ∃ k, TruV K x H' k ∧ Q k H') := h ▸ pt_truth ha he
theorem k_rev {e : Expr} {te : TE} {k : _} {p1 p2 p3 pos : Pos} (he : PE X e te) (h : X.K = K := by rfl) : PE X (.Subscript e (.Slice none none (some (.UnaryOp .USub (.Constant (.int 1) k p1) p2)) p3) pos) (tRevL K te) := h ▸ pe_revL he
theorem k_gtup {es : List Expr} {k : Nat} {t : TGs} {n : Nat} {pos : Pos} (hc : X.calm = true) (hp : PGs X es t) (hst : List.findIdx? (fun x => x.fst) (assignEach es X.env) = none := by rfl) (hn : (assignEach es X.env).length = n := by rfl) (h : X.K = K := by rfl) : PG X (.Tuple es k pos) (gTup K n t) := by
  subst h
  exact pg_tup hc hp hn hst
end
section
variable {K : PySem.W.Frag} {G H : Hp} {ρ : Sls K} {ta tb : TE}
theorem Rp.scr {ns : List Int} {v : V} (h : Rp K G (scr ns) v) : ∃ a, v = .ref a ∧ SqL K G a (ns.map V.int) := by
  obtain ⟨ws, _, h⟩ := h
  rcases h with ⟨a, ms, h1, h2, h3⟩ | ⟨a, o, kk, us, h1, h2, _⟩ | ⟨a, o, kk, us, h1, h2, _⟩ | ⟨x, C, dx, c, fs, us, h1, h2, _⟩
  · have e : ns = ms := (List.map_inj_right (fun x y h => PyData.int.inj h)).mp (PyData.list.inj (List.cons.inj h3).1)
    subst e
    exact ⟨a, h1, h2⟩
  · cases h2
  · cases h2
  · cases h2
theorem rc_lenS {ns : List Int} : RC K (fun xs H Q => ∃ p ys, xs = [.ref p] ∧ (SqL K H p ys ∨ SqT K H p ys) ∧ Q (.int ys.length) H) [scr ns] (.int ns.length) := fun G H vs s hv Q q => by
  obtain ⟨v, vs, rfl, hr, rfl⟩ := hv
  obtain ⟨a, rfl, h2⟩ := hr.scr
  refine ⟨a, ns.map V.int, rfl, .inl (Same.seq s h2), ?_⟩
  rw [List.length_map]
  exact q _ G H (Grow.refl s) rfl
theorem ed_ixS {ns : List Int} {i : Int} {n : Int} (ha : ED K ta ρ (scr ns)) (hb : ED K tb ρ (.int i)) {j : Nat} (hj : ixN ns.length i = some j) (hd : ns[j]? = some n) : ED K (tOp (rIxL K) ta tb) ρ (.int n) :=
  ed_op ha hb fun G H v w s hx hy Q q => by
    cases hy
    obtain ⟨a, rfl, h2⟩ := hx.scr
    refine ⟨a, ns.map V.int, i, .int n, rfl, rfl, Same.seq s h2, ?_, q _ G H (Grow.refl s) rfl⟩
    unfold atI
    rw [List.length_map, hj]
    show (ns.map V.int)[j]? = _
    rw [List.getElem?_map, hd]; rfl
theorem ixN_in {n : Nat} {i : Int} (h0 : 0 ≤ i) (h1 : i < n) : ixN n i = some i.toNat := by
  unfold ixN
  rw [if_pos h0, if_pos h1]
theorem getD_get {α : Type} {xs : List α} {d : α} {j : Nat} (h : j < xs.length) : xs[j]? = some (xs.getD j d) := by
  rw [List.getD_eq_getElem?_getD, List.getElem?_eq_getElem h]; rfl
/-- an item of a list, a tuple of any length -/
theorem ed_ixLm {α : Type} {f : α → PyData} {xs : List α} {i : Int} (dflt : α) (ha : ED K ta ρ (.list (xs.map f))) (hb : ED K tb ρ (.int i)) (h0 : 0 ≤ i) (h1 : i < xs.length) : ED K (tOp (rIxL K) ta tb) ρ (f (xs.getD i.toNat dflt)) :=
  ed_ixL ha hb (ixN_in h0 (by rw [List.length_map]; exact h1)) (by rw [List.getElem?_map, getD_get (d := dflt) (by omega)]; rfl)
theorem ed_ixTm {α : Type} {f : α → PyData} {xs : List α} {i : Int} (dflt : α) (ha : ED K ta ρ (.tuple (xs.map f))) (hb : ED K tb ρ (.int i)) (h0 : 0 ≤ i) (h1 : i < xs.length) : ED K (tOp (rIxT K) ta tb) ρ (f (xs.getD i.toNat dflt)) :=
  ed_ixT ha hb (ixN_in h0 (by rw [List.length_map]; exact h1)) (by rw [List.getElem?_map, getD_get (d := dflt) (by omega)]; rfl)
theorem ed_ixLi {xs : List Int} {i : Int} (ha : ED K ta ρ (.list (xs.map .int))) (hb : ED K tb ρ (.int i)) (h0 : 0 ≤ i) (h1 : i < xs.length) : ED K (tOp (rIxL K) ta tb) ρ (.int (xs.getD i.toNat 0)) := ed_ixLm (f := .int) 0 ha hb h0 h1
theorem ed_ixTi {xs : List Int} {i : Int} (ha : ED K ta ρ (.tuple (xs.map .int))) (hb : ED K tb ρ (.int i)) (h0 : 0 ≤ i) (h1 : i < xs.length) : ED K (tOp (rIxT K) ta tb) ρ (.int (xs.getD i.toNat 0)) := ed_ixTm (f := .int) 0 ha hb h0 h1
theorem cutD_map {α β : Type} (f : α → β) (xs : List α) (lo hi : Option Int) : cutD (xs.map f) lo hi = (cutD xs lo hi).map f := by
  unfold cutD
  rw [List.length_map, List.map_take, List.map_drop]
theorem rc_allm {α : Type} {xs : List α} {p : α → Bool} : RC K (rAll K) [.list (xs.map fun x => .bool (p x))] (.bool (xs.all p)) := by
  have h := rc_all (K := K) (bs := xs.map p)
  rw [List.map_map, List.all_map] at h
  exact h
theorem rc_anym {α : Type} {xs : List α} {p : α → Bool} : RC K (rAny K) [.list (xs.map fun x => .bool (p x))] (.bool (xs.any p)) := by
  have h := rc_any (K := K) (bs := xs.map p)
  rw [List.map_map, List.any_map] at h
  exact h
theorem ed_revm {α : Type} {f : α → PyData} {xs : List α} {te : TE} (h : ED K te ρ (.list (xs.map f))) : ED K (tRevL K te) ρ (.list (xs.reverse.map f)) := by
  rw [List.map_reverse]
  exact ed_rev h
theorem ed_isN {x : PyData} {b : Bool} (ha : ED K ta ρ x) (h : ∀ G v, Rp K G x v → decide (v = .non) = b) (hb : ED K tb ρ .none) : ED K (tOp (fun x y H Q => y = .non ∧ Q (.bl (decide (x = .non))) H) ta tb) ρ (.bool b) :=
  ed_op ha hb fun G H v w s hx hy Q q => by
    cases hy
    exact ⟨rfl, by rw [h G v hx]; exact q _ G H (Grow.refl s) rfl⟩
end
theorem rng_at {lo : Int} {n : Nat} {pre post : List Int} {x : Int} (e : rng lo n = pre ++ x :: post) : pre.length < n ∧ x = lo + (pre.length : Int) := by
  have e1 := congrArg List.length e
  rw [rng_len, List.length_append, List.length_cons] at e1
  have h : pre.length < n := by omega
  refine ⟨h, ?_⟩
  have e2 := rng_get (lo := lo) h
  rw [e, List.getElem?_append_right (Nat.le_refl _), Nat.sub_self] at e2
  exact Option.some.inj e2
theorem rng_mem {lo : Int} {n : Nat} {x : Int} (h : x ∈ rng lo n) : lo ≤ x ∧ x < lo + n := by
  unfold rng at h
  obtain ⟨i, h1, rfl⟩ := List.mem_map.mp h
  have := List.mem_range.mp h1
  omega
/-- out of a call where nothing is let out nothing comes -/
theorem no_out {P : Program} {w : World} {H : Hp} {s : Shared} {e : Value} {s' : Shared} (h : L2.CX P w [] H s (fun _ _ _ => False) e s') : False := by
  obtain ⟨_, _, _, _, _, _, _, _, _, _, _, _, z⟩ := h
  exact z.elim
theorem law_sp_of {K : PySem.W.Frag} {R : List PyData → Res → Prop} {H : Hp} {a : Addr} {ns : List Int} (hR : R [scr ns] (.val (.bool true))) (hS : SqL K H a (ns.map V.int)) : spD K R [.ref a] H (fun v _ => v = .bl true) fun _ _ _ => False :=
  ⟨H, [scr ns], .val (.bool true), Same.refl H, ⟨.ref a, [], rfl, ⟨[.non], ⟨.non, [], rfl, rfl, rfl⟩, .inl ⟨a, ns, rfl, hS, rfl⟩⟩, rfl⟩, hR, fun v G2 H2 g r => r⟩
theorem shaped_tupm {α : Type} {f : α → PyData} {n : Nat} (hf : ∀ x, (f x).canLay0 = true ∧ (f x).depth ≤ n) (hn : n < 64) (xs : List α) : SeqAt.shaped (.tuple (xs.map f)) = true := by
  have h1 : ∀ xs : List α, PyData.canLayAll0 (xs.map f) = true := fun xs => by
    induction xs with
    | nil => rfl
    | cons x xs ih => show ((f x).canLay0 && PyData.canLayAll0 (xs.map f)) = true; rw [(hf x).1, ih]; rfl
  have h2 : ∀ xs : List α, PyData.depthAll (xs.map f) ≤ n := fun xs => by
    induction xs with
    | nil => exact Nat.zero_le _
    | cons x xs ih => show max (f x).depth (PyData.depthAll (xs.map f)) ≤ n; have := (hf x).2; omega
  unfold SeqAt.shaped
  rw [Bool.and_eq_true, decide_eq_true_eq]
  exact ⟨h1 xs, by show PyData.depthAll (xs.map f) + 1 ≤ 64; have := h2 xs; omega⟩
end D2

set_option Elab.async false
set_option linter.all false
set_option maxRecDepth 100000
set_option maxHeartbeats 4000000
namespace D2
open PySem PySem.Spec PyProof.Rows L2
open PySem.W (EachIs AllAlike Sortable dataLe sorted_data alike)
/-! ### sorted of data -/
section
open PySem.W
variable {prog : Program} {w : World} {A : Around} {s : Shared} {E : Value → Shared → Prop} {β : Type} {R : Value → β → Prop} {enc : β → PyData} {vs : List Value} {bs : List β}
theorem keyLt'_general (x y : Value) : keyLt' general' x y = oneLt' false x y := rfl
/-- one item or none: nothing is compared -/
theorem sorts_one {ds : List PyData} (e : EachIs (fun v d => ∃ as, Reads s.heap v d as) vs ds) (hal : AllAlike ds) (h1 : ds.length < 2) (hn : ∀ d ∈ ds, d ≠ .none) (hu : ∀ d, d ∈ ds → A.units + d.depth < cLine) : SortsAt prog w A s (dataKind s.heap ds) vs := by
  refine ⟨fun v hv => ?_, general', fun E x y a b Q ha hb hq => ?_, fun h2 => ?_⟩
  · obtain ⟨d, hd, as, r⟩ := e.left v hv
    exact ⟨_, dataKind_some hal hd r⟩
  · obtain ⟨d, as, hd, ra, rfl⟩ := dataKind_inv ha
    obtain ⟨d', as', hd', rb, rfl⟩ := dataKind_inv hb
    rw [keyLt'_general]
    exact oneLt_alike (fun z => by cases z) ra rb (hal d hd d' hd') (hn d hd) (Nat.lt_of_le_of_lt (Nat.add_le_add_left (Nat.min_le_left _ _) _) (hu d hd)) hq
  · rw [e.length] at h2; omega
theorem sorted_one {l : Addr} {Q : Value → Shared → Prop} (hl : s.heap.IsList l vs.toArray) (e : EachIs R vs bs) (er : EachIs (fun v b => ∃ as, Reads s.heap v (enc b) as) vs bs) (hal : AllAlike (bs.map enc)) (h1 : bs.length < 2) (hn : ∀ b ∈ bs, enc b ≠ .none) (hL : bs.length ≤ sizeLine)
    (hu : ∀ b, b ∈ bs → A.units + 2 + (enc b).depth < cLine) (h : ∀ out, out.length = bs.length → EachIs R out (bs.mergeSort (dataLe false enc)) → Q (.ref (s.heap.objs.size + 1)) { s with heap := sortedAll s.heap vs (List.toArray out) }) :
    wpAny (model prog w) A (call (.builtin "sorted") [.ref l]) Q E s := by
  have er' : EachIs (fun v b => ∃ as, Reads (sortingHeap (copyHeap s.heap vs) (s.heap.objs.size + 1) vs) v (enc b) as) vs bs := er.mono fun _ _ ⟨as, r⟩ => ⟨as, PyProof.Rows.Reads.keeps (fun _ _ => sorting_copy_old) r⟩
  exact sorted_vals hl (sorts_one (s := { s with heap := sortingHeap (copyHeap s.heap vs) (s.heap.objs.size + 1) vs }) (each_map (R := fun v d => ∃ as, Reads (sortingHeap (copyHeap s.heap vs) (s.heap.objs.size + 1) vs) v d as) enc er') hal (by rw [List.length_map]; exact h1) (fun d hd => by obtain ⟨b, hb, rfl⟩ := List.mem_map.mp hd; exact hn b hb) (bound_map hu)) (by rw [e.length]; exact hL)
    (h _ (by rw [sortVals_length false rfl]; exact e.length) (sortVals_data false e er' hal))
end
abbrev dle : PyData → PyData → Bool := dataLe false id
def rSortD (K : PySem.W.Frag) : List V → Hp → VK → Prop := fun vs H Q => ∃ (a : Addr) (bs : List (PyData × V)), vs = [.ref a] ∧ SqL K H a (bs.map (·.2)) ∧ (∀ b ∈ bs, Dp K H b.2 b.1) ∧ AllAlike (bs.map (·.1)) ∧ (Sortable (bs.map (·.1)) ∨ (bs.length < 2 ∧ ∀ b ∈ bs, b.1 ≠ .none)) ∧ (∀ b ∈ bs, b.1.depth ≤ 60) ∧
  ∀ p, H p = none → Q (.ref p) (upd H p (.lst ((bs.mergeSort (dataLe false (·.1))).map (·.2))))
theorem each_of {R : Value → PyData × V → Prop} : ∀ {bs : List (PyData × V)} {us : List Value}, Vals (bs.map (·.2)) us → (∀ u b, b ∈ bs → RelV b.2 u → R u b) → EachIs R us bs
  | [], _, .nil, _ => .nil
  | b :: bs, _, .cons r t, h => .cons (h _ b List.mem_cons_self r) (each_of t fun u c hc => h u c (List.mem_cons_of_mem _ hc))
theorem vals_of_each : ∀ {bs : List (PyData × V)} {us : List Value}, EachIs (fun u (b : PyData × V) => RelV b.2 u) us bs → Vals (bs.map (·.2)) us
  | _, _, .nil => .nil
  | _, _, .cons r t => .cons r (vals_of_each t)
section
variable {X : Cx} {K : PySem.W.Frag}
theorem k_sortD (hu : X.A.units + 64 < cLine) (hK : X.K = K := by rfl) : CallR X (.builtin "sorted") (rSortD K) := by
  subst hK
  intro pins s σ H vs us Q I r h
  obtain ⟨a, bs, rfl, hs, hd, hal, hso, hdp, q⟩ := h
  obtain ⟨its, rv, hl, hz⟩ := I.list hs
  obtain ⟨u, rfl, ru⟩ := vals1 r
  obtain rfl : u = Value.ref a := ru
  have hz' : bs.length ≤ sizeLine := by simpa using hz
  have fin : ∀ {Q' : Prop}, ((∀ out : List Value, out.length = bs.length → EachIs (fun u (b : PyData × V) => RelV b.2 u) out (bs.mergeSort (dataLe false (·.1))) → EP X pins σ Q (.ref (s.heap.objs.size + 1)) { s with heap := PyProof.Rows.sortedAll s.heap its (List.toArray out) }) → Q') → Q' := fun k => k ?_
  rcases hso with hso | ⟨h1, hn⟩
  · exact fin fun h => sorted_data (R := fun u (b : PyData × V) => RelV b.2 u) (enc := (·.1)) (bs := bs) hl.isList (each_of rv fun u b _ r => r) (each_of rv fun u b hb r => Dp.reads I b.1 b.2 u (hd b hb) r) hal hso hz' (fun b hb => by have := hdp b hb; omega) h
  · exact fin fun h => sorted_one (R := fun u (b : PyData × V) => RelV b.2 u) (enc := (·.1)) (bs := bs) hl.isList (each_of rv fun u b _ r => r) (each_of rv fun u b hb r => Dp.reads I b.1 b.2 u (hd b hb) r) hal h1 hn hz' (fun b hb => by have := hdp b hb; omega) h
  intro out ho he
  have hv := vals_of_each he
  obtain ⟨e, hat⟩ := PyProof.Rows.sortedAll_at s.heap its out.toArray
  have hn : H (s.heap.objs.size + 1) = none := I.hok.fresh (Nat.le_succ _)
  have new : ObjOk X.prog X.w (upd H (s.heap.objs.size + 1) (.lst ((bs.mergeSort (dataLe false (·.1))).map (·.2)))) (PyProof.Rows.sortedAll s.heap its out.toArray) (s.heap.objs.size + 1) (.lst ((bs.mergeSort (dataLe false (·.1))).map (·.2))) :=
    ⟨by rw [List.length_map, List.length_mergeSort]; exact hz', out, e, hv, hat⟩
  exact ⟨.ref (s.heap.objs.size + 1), _, I.laid (t' := s.toks) (fun b o hb => PyProof.Rows.sortedAll_old hb) (Nat.le_succ _) new, rfl, q _ hn⟩
end
theorem RpA.zip_snd {K : PySem.W.Frag} {G : Hp} : ∀ {ds : List PyData} {vs : List V}, RpA K G ds vs → (ds.zip vs).map (·.2) = vs ∧ (ds.zip vs).map (·.1) = ds ∧ ∀ b ∈ ds.zip vs, Rp K G b.1 b.2
  | [], _, h => by cases h; exact ⟨rfl, rfl, fun _ h => by simp at h⟩
  | d :: ds, _, ⟨v, vs, h1, h2, h3⟩ => by
    cases h1
    obtain ⟨a, b, c⟩ := RpA.zip_snd h3
    refine ⟨by simp [a], by simp [b], fun x hx => ?_⟩
    rw [List.zip_cons_cons] at hx
    rcases List.mem_cons.mp hx with rfl | hx
    · exact h2
    · exact c x hx
theorem RpA.of_zip {K : PySem.W.Frag} {G : Hp} : ∀ {bs : List (PyData × V)}, (∀ b ∈ bs, Rp K G b.1 b.2) → RpA K G (bs.map (·.1)) (bs.map (·.2))
  | [], _ => rfl
  | b :: bs, h => ⟨b.2, _, rfl, h b List.mem_cons_self, RpA.of_zip fun x hx => h x (List.mem_cons_of_mem _ hx)⟩
theorem sort_fst (bs : List (PyData × V)) : (bs.mergeSort (dataLe false (·.1))).map (·.1) = (bs.map (·.1)).mergeSort dle := by
  rw [List.map_mergeSort (s := dle)]
  intro a _ b _; rfl
theorem rc_sortX {K : PySem.W.Frag} {ds : List PyData} (hal : AllAlike ds) (hso : Sortable ds ∨ (ds.length < 2 ∧ ∀ d ∈ ds, d ≠ .none)) (hdp : ∀ d ∈ ds, d.depth ≤ 60) (hcl : PyData.canLayAll0 ds = true) : RC K (rSortD K) [.list ds] (.list (ds.mergeSort dle)) := fun G H vs s hv Q q => by
  obtain ⟨v, vs, rfl, ⟨a, xs, rfl, h2, h3, h4⟩, rfl⟩ := hv
  obtain ⟨e1, e2, e3⟩ := h4.zip_snd
  have mem1 : ∀ b ∈ ds.zip xs, b.1 ∈ ds := fun b hb => by rw [← e2]; exact List.mem_map_of_mem hb
  have cl : ∀ d ∈ ds, d.canLay0 = true := by
    clear e1 e2 e3 mem1 h4 hal hso hdp q h3
    induction ds with
    | nil => intro d h; cases h
    | cons x ds ih =>
      have h' : x.canLay0 = true ∧ PyData.canLayAll0 ds = true := by simpa [PyData.canLayAll0] using hcl
      intro d hd
      rcases List.mem_cons.mp hd with rfl | hd
      · exact h'.1
      · exact ih h'.2 d hd
  refine ⟨a, ds.zip xs, rfl, by rw [e1]; exact SqL.of (s _ _ h2), fun b hb => ((e3 b hb).mono s).dp (cl _ (mem1 b hb)), by rw [e2]; exact hal, by rw [e2]; exact hso.imp id (fun z => ⟨by have := congrArg List.length e2; rw [List.length_map] at this; omega, fun b hb => z.2 _ (mem1 b hb)⟩), fun b hb => hdp _ (mem1 b hb), fun p hp => ?_⟩
  have s2 := same_upd (o := .lst (((ds.zip xs).mergeSort (dataLe false (·.1))).map (·.2))) (Same.back s hp)
  refine q _ _ _ (Grow.new s hp) ⟨p, _, rfl, upd_same, by rw [List.length_mergeSort]; exact h3, ?_⟩
  have e := sort_fst (ds.zip xs)
  rw [e2] at e
  rw [← e]
  exact RpA.of_zip fun b hb => (e3 b ((List.mergeSort_perm _ _).mem_iff.mp hb)).mono s2
theorem rc_sort {K : PySem.W.Frag} {ds : List PyData} (hal : AllAlike ds) (hso : Sortable ds) (hdp : ∀ d ∈ ds, d.depth ≤ 60) (hcl : PyData.canLayAll0 ds = true) : RC K (rSortD K) [.list ds] (.list (ds.mergeSort dle)) := rc_sortX hal (.inl hso) hdp hcl
end D2

set_option Elab.async false
set_option linter.all false
set_option maxRecDepth 100000
set_option maxHeartbeats 4000000
namespace D2
open PySem PySem.Spec PyProof.Rows L2
open PySem (IsZip Draws ZipSep2 IsTupOf2 ZipApart)
/-! ### zip of lists and tuples in any mix -/
inductive Sd where
  | l (a : Addr) | t (a : Addr)
def Sd.a : Sd → Addr
  | .l a => a
  | .t a => a
def SqS (K : PySem.W.Frag) (H : Hp) : Sd → List V → Prop
  | .l a, xs => SqL K H a xs
  | .t a, xs => SqT K H a xs
def ItAt (h : Heap) (it : Addr) : Sd → Nat → Prop
  | .l a, i => h.IsListIter it a i
  | .t a, i => h.IsTupleIter it a i
def IsS (h : Heap) : Sd → Array Value → Prop
  | .l a, xs => h.IsList a xs
  | .t a, xs => h.IsTuple a xs
theorem ItAt.at {h h' : Heap} {it : Addr} {q : Sd} {i : Nat} (x : ItAt h it q i) (k : ∀ o, h.get? it = some o → h'.get? it = some o) : ItAt h' it q i := by
  cases q with
  | l a => exact Heap.IsListIter.at x k
  | t a => exact Heap.IsTupleIter.at x k
theorem ItAt.obj {h : Heap} {it : Addr} {q : Sd} {i : Nat} (x : ItAt h it q i) : ∃ o, h.get? it = some o ∧ ∀ v, o.data ≠ .cell v := by
  cases q with
  | l a => obtain ⟨o, e, _, d⟩ := x; exact ⟨o, e, fun v z => by rw [d] at z; cases z⟩
  | t a => obtain ⟨o, e, _, d⟩ := x; exact ⟨o, e, fun v z => by rw [d] at z; cases z⟩
theorem IsS.lt {h : Heap} {q : Sd} {xs : Array Value} (x : IsS h q xs) : q.a < h.objs.size := by
  cases q with
  | l a => obtain ⟨o, e, _⟩ := x; exact Heap.lt_size e
  | t a => obtain ⟨o, e, _⟩ := x; exact Heap.lt_size e
theorem Draws.side {prog : Program} {w : World} {A : Around} (hh : A.handled = none) (it : Addr) (q : Sd) (hne : q.a ≠ it) (items : Array Value) :
    Draws prog w A it [it, q.a] items.size (fun i v => items[i]? = some v) (fun i h => ItAt h it q i ∧ IsS h q items) := by
  cases q with
  | l a => exact Draws.list hh it a hne items
  | t a => exact Draws.tuple hh it a hne items
def sdIter : Sd → Obj
  | .l a => { cls := .type "list_iterator", data := .fields #[.ref a, .int 0 0] }
  | .t a => { cls := .type "tuple_iterator", data := .fields #[.ref a, .int 0 0] }
theorem Begins.side (q : Sd) (items : Array Value) : PySem.Begins (.ref q.a) (sdIter q) fun h => IsS h q items := by
  cases q with
  | l a => exact PySem.begins_list a items
  | t a => exact PySem.begins_tuple a items
theorem ItAt.zero {h : Heap} {it : Addr} {q : Sd} (e : h.get? it = some (sdIter q)) : ItAt h it q 0 := by
  cases q with
  | l a => exact ⟨_, e, rfl, rfl⟩
  | t a => exact ⟨_, e, rfl, rfl⟩
section
variable {X : Cx} {pins : List (Addr × Obj)} {σ : L2.St} {H : Hp} {s : Shared}
theorem Inv.side (I : Inv X pins σ H s) {q : Sd} {xs : List V} (h : SqS X.K H q xs) : ∃ its : List Value, Vals xs its ∧ IsS s.heap q its.toArray ∧ xs.length ≤ sizeLine := by
  cases q with
  | l a => obtain ⟨its, r, p, z⟩ := I.list h; exact ⟨its, r, p.isList, z⟩
  | t a => obtain ⟨its, r, p, z⟩ := I.tuple h; exact ⟨its, r, p, z⟩
theorem Inv.side_inj (I : Inv X pins σ H s) {q : Sd} {xs ys : List V} (h : SqS X.K H q xs) (h' : SqS X.K H q ys) : xs = ys := by
  cases q with
  | l a => exact I.list_inj h h'
  | t a => exact I.tuple_inj h h'
end
theorem sep_of {z TI TO i1 i2 l1 l2 : Addr} (D : ZipApart z TI TO i1 i2 l1 l2) : ZipSep2 z TI TO i1 i2 [i1, l1] [i2, l2] where
  TIz := D.TIz
  TOz := D.TOz
  TITO := D.TITO
  TIi1 := D.TIi1
  mem1 := by simp
  zf1 := by simp only [List.mem_cons, List.not_mem_nil, or_false, not_or]; exact ⟨D.i1z.symm, D.l1z.symm⟩
  Tf1 := by simp only [List.mem_cons, List.not_mem_nil, or_false, not_or]; exact ⟨D.TOi1, D.l1TO.symm⟩
  TIi2 := D.TIi2
  mem2 := by simp
  zf2 := by simp only [List.mem_cons, List.not_mem_nil, or_false, not_or]; exact ⟨D.i2z.symm, D.l2z.symm⟩
  Tf2 := by simp only [List.mem_cons, List.not_mem_nil, or_false, not_or]; exact ⟨D.TOi2, D.l2TO.symm⟩
  sep1_2 := by simp only [List.mem_cons, List.not_mem_nil, or_false, not_or]; exact ⟨D.i12, D.l2i1.symm⟩
  sep2_1 := by simp only [List.mem_cons, List.not_mem_nil, or_false, not_or]; exact ⟨D.i12.symm, D.l1i2.symm⟩
/-- pairs of two sides -/
def ItzM (K : PySem.W.Frag) (p q : Sd) : It :=
  ⟨fun i H => ∃ xs ys x y, SqS K H p xs ∧ SqS K H q ys ∧ xs[i]? = some x ∧ ys[i]? = some y,
   fun i H v H' => ∃ T x y, v = .ref T ∧ H T = none ∧ H' = upd H T (.tup [x, y]) ∧ (∀ l, SqS K H p l → l[i]? = some x) ∧ ∀ l, SqS K H q l → l[i]? = some y,
   fun i H => ∃ xs ys, SqS K H p xs ∧ SqS K H q ys ∧ ((i = xs.length ∧ i ≤ ys.length) ∨ (i ≤ xs.length ∧ i = ys.length))⟩
theorem turn_zipM {P : Program} {w : World} {K : PySem.W.Frag} {elts : List Expr} {kk : Nat} {tpos : Pos} {p q : Sd} {z TI TO i1 i2 : Addr} (D : ZipApart z TI TO i1 i2 p.a q.a) :
    Turn P w K (.Tuple elts kk tpos) (ItzM K p q) [z, TI, TO, i1, i2] z (fun i h => IsZip h z TI TO .none ∧ IsTupOf2 h TI (.ref i1) (.ref i2) ∧ (∃ x y, IsTupOf2 h TO x y) ∧ ItAt h i1 p i ∧ ItAt h i2 q i) where
  mem := by simp
  obj := fun i h st c hc => by
    obtain ⟨hz, hTI, ⟨x, y, hTO⟩, h1, h2⟩ := st
    have e' : c = z ∨ c = TI ∨ c = TO ∨ c = i1 ∨ c = i2 := by simpa using hc
    rcases e' with r | r | r | r | r
    · rw [r]; exact ⟨_, hz, fun v r => nomatch r⟩
    · rw [r]; exact ⟨_, hTI, fun v r => nomatch r⟩
    · rw [r]; exact ⟨_, hTO, fun v r => nomatch r⟩
    · rw [r]; exact h1.obj
    · rw [r]; exact h2.obj
  keep := fun i h h' st k => by
    obtain ⟨hz, hTI, ⟨x, y, hTO⟩, h1, h2⟩ := st
    exact ⟨k z (by simp) _ hz, k TI (by simp) _ hTI, ⟨x, y, k TO (by simp) _ hTO⟩, h1.at fun o r => k i1 (by simp) o r, h2.at fun o r => k i2 (by simp) o r⟩
  item := by
    intro X hP hw hK hc i pins s σ H E I hf st hg
    subst hP hw hK
    obtain ⟨hz, hTI, ⟨x0, y0, hTO⟩, h1, h2⟩ := st
    obtain ⟨xs, ys, x, y, hqx, hqy, hx, hy⟩ := hg
    obtain ⟨its, rv, p1, _⟩ := Inv.side I hqx
    obtain ⟨its2, rv2, p2, _⟩ := Inv.side I hqy
    obtain ⟨u, hu, ru⟩ := rv.get hx
    obtain ⟨u2, hu2, ru2⟩ := rv2.get hy
    have hh := I.ok.hd hc
    have hzl : z < s.heap.objs.size := Heap.lt_size hz
    have n1 : i < its.toArray.size := by rw [List.size_toArray]; exact (List.getElem?_eq_some_iff.mp hu).1
    have n2 : i < its2.toArray.size := by rw [List.size_toArray]; exact (List.getElem?_eq_some_iff.mp hu2).1
    refine PySem.wpAny_pyNext_zipD2_item (sep_of D) (Draws.side (A := X.A.in1) hh i1 p D.l1i1 its.toArray) (Draws.side (A := X.A.in1) hh i2 q D.l2i2 its2.toArray) hz hTI hTO ⟨h1, p1⟩ ⟨h2, p2⟩ n1 n2 fun v1 v2 h' tk e1 e2 z' TO' st1' st2' hT hsz hk => ?_
    have ev1 : v1 = u := by rw [List.getElem?_toArray, hu] at e1; exact (Option.some.inj e1).symm
    have ev2 : v2 = u2 := by rw [List.getElem?_toArray, hu2] at e2; exact (Option.some.inj e2).symm
    subst ev1 ev2
    refine ⟨_, rfl, PySem.wpAny_letOwnedTupleGo_zip (s := { s with heap := h', toks := tk }) z' fun h'' z'' sb => ?_⟩
    have hT2 : h''.get? s.heap.objs.size = some { cls := .type "tuple", data := .seq #[v1, v2] } := (sb.2 _ (Nat.ne_of_gt hzl)).trans hT
    have new : ObjOk X.prog X.w (upd H s.heap.objs.size (.tup [x, y])) h'' s.heap.objs.size (.tup [x, y]) :=
      ⟨by show 2 ≤ sizeLine; decide, [v1, v2], .cons ru (.cons ru2 .nil), ⟨_, hT2, rfl, _, rfl⟩⟩
    have I1 : Inv X pins σ (upd H s.heap.objs.size (.tup [x, y])) { s with heap := h'', toks := tk } :=
      I.turnedNew (t' := tk) (ch := [z, TI, TO, i1, i2]) (fun c o hb r => (sb.2 c (fun r' => hb (by simp [r']))).trans (hk c o (fun r' => hb (by simp [r'])) (fun r' => hb (by simp [r'])) (fun r' => hb (by simp [r'])) (fun r' => hb (by simp [r'])) r)) hf (Nat.le_refl _) new
    refine ⟨.ref s.heap.objs.size, _, I1, rfl, ⟨_, x, y, rfl, I.hok.fresh (Nat.le_refl _), rfl, fun l hl => by rw [Inv.side_inj I hl hqx]; exact hx, fun l hl => by rw [Inv.side_inj I hl hqy]; exact hy⟩, ⟨z'', ?_, ⟨v1, v2, ?_⟩, ?_, ?_⟩, fun c hcm => ?_⟩
    · exact (sb.2 _ D.TIz).trans (hk _ _ D.TIz D.TITO D.TIi1 D.TIi2 hTI)
    · exact (sb.2 _ D.TOz).trans TO'
    · exact st1'.1.at fun o r => (sb.2 _ D.i1z).trans r
    · exact st2'.1.at fun o r => (sb.2 _ D.i2z).trans r
    · have hlt : c < s.heap.objs.size := by
        have e' : c = z ∨ c = TI ∨ c = TO ∨ c = i1 ∨ c = i2 := by simpa using hcm
        rcases e' with r | r | r | r | r
        · rw [r]; exact hzl
        · rw [r]; exact Heap.lt_size hTI
        · rw [r]; exact Heap.lt_size hTO
        · rw [r]; obtain ⟨_, e1, _⟩ := h1.obj; exact Heap.lt_size e1
        · rw [r]; obtain ⟨_, e2, _⟩ := h2.obj; exact Heap.lt_size e2
      rw [upd_ne (Nat.ne_of_lt hlt)]
      exact (hf c hcm).1
  done := by
    intro X hP hw hK hc i pins s σ H E I hf st hg
    subst hP hw hK
    obtain ⟨hz, hTI, ⟨x0, y0, hTO⟩, h1, h2⟩ := st
    obtain ⟨xs, ys, hqx, hqy, hend⟩ := hg
    obtain ⟨its, rv, p1, _⟩ := Inv.side I hqx
    obtain ⟨its2, rv2, p2, _⟩ := Inv.side I hqy
    have l1 := rv.length
    have l2 := rv2.length
    have hh := I.ok.hd hc
    refine PySem.wpAny_pyNext_zipD2_end (sep_of D) (Draws.side (A := X.A.in1) hh i1 p D.l1i1 its.toArray) (Draws.side (A := X.A.in1) hh i2 q D.l2i2 its2.toArray) hz hTI hTO ⟨h1, p1⟩ ⟨h2, p2⟩ (by rw [List.size_toArray]; omega) (by rw [List.size_toArray]; omega) (by rw [List.size_toArray, List.size_toArray]; omega) fun h' tk hk => ⟨rfl, ?_⟩
    exact I.turnedL (t' := tk) (ch := [z, TI, TO, i1, i2]) (fun c o hb r => hk c o (fun r' => hb (by simp [r'])) (fun r' => hb (by simp [r'])) (fun r' => hb (by simp [r'])) (fun r' => hb (by simp [r'])) r) hf
  self := fun A i s Q E st h => PySem.wpAny_pyIter_zip st.1 h
def iZipM (K : PySem.W.Frag) (ta : TA) : TI := fun σ H R => ta σ H fun vs H1 => ∃ (p q : Sd) (xs ys : List V), vs = [.ref p.a, .ref q.a] ∧ SqS K H1 p xs ∧ SqS K H1 q ys ∧ R (ItzM K p q) H1
theorem pi_zipM {X : Cx} {K : PySem.W.Frag} {e e2 : Expr} {ta : TA} {p pos tpos : Pos} {elts : List Expr} {kk : Nat} (hg : Gl X "zip") (hm : X.mg "zip" = none) (ha : PA X [e, e2] ta) (hK : X.K = K := by rfl)
    (hs : starEach [e, e2] X.env = (false, eval e X.env) :: starEach [e2] X.env := by rfl) (hpl : (backTo pos (starEach [e2] X.env)).any (·.1) = false := by rfl) :
    PI X (.Tuple elts kk tpos) (.Call (.Name "zip" p) [e, e2] [] pos) (iZipM K ta) := by
  subst hK
  refine ⟨fun pins s σ H R I h => ?_⟩
  refine PyProof.Rows.Call_ (ld_blt I hg hm PyProof.Rows.boot_zip (PyProof.Rows.callWith_type1 (thn (ha.run pos pins s σ H _ I h) fun us s1 ⟨vs, H1, I1, r1, q1⟩ => ?_) hs hpl))
  obtain ⟨p, q, xs, ys, ex, hqx, hqy, q1⟩ := q1
  subst ex
  cases r1 with
  | cons r rr =>
    cases rr with
    | cons r' rr =>
      cases rr
      cases r
      cases r'
      have fresh5 : ∀ c, c ∈ [s1.heap.objs.size + 4, s1.heap.objs.size + 2, s1.heap.objs.size + 3, s1.heap.objs.size, s1.heap.objs.size + 1] → FpOk X pins H1 c := fun c hcm => by
        have e' : c = s1.heap.objs.size + 4 ∨ c = s1.heap.objs.size + 2 ∨ c = s1.heap.objs.size + 3 ∨ c = s1.heap.objs.size ∨ c = s1.heap.objs.size + 1 := by simpa using hcm
        have hle : s1.heap.objs.size ≤ c := by
          rcases e' with z | z | z | z | z
          · rw [z]; exact Nat.le_add_right _ _
          · rw [z]; exact Nat.le_add_right _ _
          · rw [z]; exact Nat.le_add_right _ _
          · rw [z]; exact Nat.le_refl _
          · rw [z]; exact Nat.le_add_right _ _
        exact I1.fpOk hle (I1.hok.fresh hle)
      obtain ⟨its, rv, p1, _⟩ := Inv.side I1 hqx
      obtain ⟨its2, rv2, p2, _⟩ := Inv.side I1 hqy
      refine PySem.zip_begins2 (Begins.side p its.toArray) (Begins.side q its2.toArray) p1 p2 fun h' hz hTI hTO h1 h2 hsz hk => PySem.wpAny_pyIter_zip hz ?_
      have I2 : Inv X pins σ H1 { s1 with heap := h' } := I1.kept (t' := s1.toks) hk
      exact ⟨s1.heap.objs.size + 4, [s1.heap.objs.size + 4, s1.heap.objs.size + 2, s1.heap.objs.size + 3, s1.heap.objs.size, s1.heap.objs.size + 1], _, _, H1, rfl, I2, turn_zipM (PySem.W.ktu_apart s1.heap.objs.size p.a q.a p1.lt p2.lt), ⟨hz, hTI, ⟨_, _, hTO⟩, ItAt.zero h1, ItAt.zero h2⟩, fresh5, q1⟩
/-! data: what zip walks -/
def isSeqD : PyData → Option (Bool × List PyData)
  | .list ds => some (true, ds)
  | .tuple ds => some (false, ds)
  | _ => none
theorem Rp.side {K : PySem.W.Frag} {G : Hp} {d : PyData} {v : V} {b : Bool} {ds : List PyData} (h : isSeqD d = some (b, ds)) (r : Rp K G d v) : ∃ (q : Sd) (xs : List V), v = .ref q.a ∧ (∀ H, Same G H → SqS K H q xs) ∧ ds.length ≤ LIM ∧ RpA K G ds xs := by
  cases d with
  | list es =>
    cases h
    obtain ⟨a, xs, rfl, h2, h3, h4⟩ := r
    exact ⟨.l a, xs, rfl, fun H s => SqL.of (s _ _ h2), h3, h4⟩
  | tuple es =>
    cases h
    obtain ⟨a, xs, rfl, h2, h3, h4⟩ := r
    exact ⟨.t a, xs, rfl, fun H s => same_t s h2, h3, h4⟩
  | _ => cases h
theorem it_zip {K : PySem.W.Frag} {ρ : Sls K} {ta : TA} {d e : PyData} {b c : Bool} {ds es : List PyData} (h : EDA K ta ρ [d, e]) (h1 : isSeqD d = some (b, ds)) (h2 : isSeqD e = some (c, es)) : IT K (iZipM K ta) ρ (List.zipWith (fun x y => PyData.tuple [x, y]) ds es) := fun H0 σ G H er s R q => h H0 σ G H er s _ fun vs G2 H2 g r => by
  obtain ⟨v, vs, rfl, r1, w, ws, rfl, r2, rfl⟩ := r
  obtain ⟨p, xs, rfl, p2, p3, p4⟩ := Rp.side h1 r1
  obtain ⟨p', ys, rfl, p2', p3', p4'⟩ := Rp.side h2 r2
  have l1 := p4.length
  have l2 := p4'.length
  have lz : (List.zipWith (fun x y => PyData.tuple [x, y]) ds es).length = min ds.length es.length := by rw [List.length_zipWith]
  refine ⟨p, p', xs, ys, rfl, p2 H2 g.gh, p2' H2 g.gh, q _ G2 H2 g ⟨fun i H s hi => ?_, fun i H s hi => ?_, fun i x H H' s hi y => ?_⟩⟩
  all_goals rw [lz] at hi
  · exact ⟨xs, ys, p2 H s, p2' H s, by omega⟩
  · obtain ⟨x, hx⟩ := lt_get (xs := xs) (i := i) (by omega)
    obtain ⟨y, hy⟩ := lt_get (xs := ys) (i := i) (by omega)
    exact ⟨xs, ys, x, y, p2 H s, p2' H s, hx, hy⟩
  · obtain ⟨T, x1, y1, rfl, hT, rfl, f1, f2⟩ := y
    obtain ⟨d1, hd1⟩ := lt_get (xs := ds) (i := i) (by omega)
    obtain ⟨e1, he1⟩ := lt_get (xs := es) (i := i) (by omega)
    obtain ⟨v1, hv1, rv1⟩ := p4.get hd1
    obtain ⟨v2, hv2, rv2⟩ := p4'.get he1
    have q1 := f1 xs (p2 H s)
    have q2 := f2 ys (p2' H s)
    rw [hv1] at q1; cases q1
    rw [hv2] at q2; cases q2
    have sm := same_upd (o := .tup [x1, y1]) (Same.back s hT)
    refine ⟨_, .tuple [d1, e1], Grow.new s hT, ?_, ⟨T, [x1, y1], rfl, upd_same, by show 2 ≤ LIM; decide, ⟨x1, _, rfl, rv1.mono sm, y1, _, rfl, rv2.mono sm, rfl⟩⟩⟩
    rw [List.getElem?_zipWith, hd1, he1]
end D2

set_option Elab.async false
set_option linter.all false
set_option maxRecDepth 100000
set_option maxHeartbeats 4000000
namespace D2
open PySem PySem.Spec PyProof.Rows L2
section
variable {K : PySem.W.Frag} {ρ : Sls K} {ta tb tc te : TE} {x y z d : PyData} {ds : List PyData} {b c : Bool}
/-! ### a < b <= c -/
theorem rv_lt {i j : Int} : RV K (rI0 fun i j => .bl (decide (i < j))) (.int i) (.int j) (.bool (decide (i < j))) := rv_I0 fun _ => rfl
theorem rv_le {i j : Int} : RV K (rI0 fun i j => .bl (decide (i ≤ j))) (.int i) (.int j) (.bool (decide (i ≤ j))) := rv_I0 fun _ => rfl
theorem rv_gt {i j : Int} : RV K (rI0 fun i j => .bl (decide (j < i))) (.int i) (.int j) (.bool (decide (j < i))) := rv_I0 fun _ => rfl
theorem rv_ge {i j : Int} : RV K (rI0 fun i j => .bl (decide (j ≤ i))) (.int i) (.int j) (.bool (decide (j ≤ i))) := rv_I0 fun _ => rfl
theorem ed_chain {r r' : R2} (ha : ED K ta ρ x) (hb : ED K tb ρ y) (hr : RV K r x y (.bool b)) (hc : b = true → ∃ z, ED K tc ρ z ∧ RV K r' y z (.bool c)) : ED K (tChain r r' ta tb tc) ρ (.bool (b && c)) := fun H0 σ G H er s Q q =>
  ha H0 σ G H er s _ fun vx G1 H1 g1 r1 => hb H0 σ G1 H1 (er.grow g1) g1.gh _ fun vy G2 H2 g2 r2 =>
    hr G2 H2 vx vy g2.gh (r1.mono g2.gg) r2 _ fun v G3 H3 g3 r3 => by
      cases r3
      refine ⟨b, rfl, ?_⟩
      have g := (g1.trans g2).trans g3
      cases b with
      | false => exact iteF (q _ G3 H3 g rfl)
      | true =>
        obtain ⟨z, hz, hr'⟩ := hc rfl
        exact iteT (hz H0 σ G3 H3 (er.grow g) g.gh _ fun vz G4 H4 g4 r4 => hr' G4 H4 vy vz g4.gh (r2.mono (g3.gg.trans g4.gg)) r4 Q fun v G5 H5 g5 r5 => q v G5 H5 ((g.trans g4).trans g5) r5)
/-! ### x in xs, flat -/
def flatD : PyData → Option V
  | .none => some .non
  | .bool b => some (.bl b)
  | .int i => some (.int i)
  | .str x => some (.str x)
  | _ => none
theorem flatD_rp {G : Hp} {v u : V} (h : flatD d = some u) (r : Rp K G d v) : v = u := by
  cases d <;> simp only [flatD] at h <;> first | (cases h; exact r) | cases h
theorem flatD_flat {u : V} (h : flatD d = some u) : flatV u = true := by
  cases d <;> simp only [flatD] at h <;> first | (cases h; rfl) | cases h
theorem rpA_map {α : Type} {f : α → PyData} {g : α → V} (h : ∀ a, flatD (f a) = some (g a)) {G : Hp} : ∀ {xs : List α} {vs : List V}, RpA K G (xs.map f) vs → vs = xs.map g
  | [], _, r => r
  | a :: xs, _, ⟨v, vs, h1, h2, h3⟩ => by cases h1; rw [flatD_rp (h a) h2, rpA_map h h3]; rfl
theorem all_flat {α : Type} {g : α → V} (h : ∀ a, flatV (g a) = true) (xs : List α) : (xs.map g).all flatV = true := by
  rw [List.all_map]; exact List.all_eq_true.mpr fun a _ => h a
theorem inV_int (x : Int) (xs : List Int) : inV (.int x) (xs.map .int) = decide (x ∈ xs) := by
  unfold inV
  rw [List.any_map]
  induction xs with
  | nil => rfl
  | cons y ys ih =>
    rw [List.any_cons, ih]
    show ((y == x) || _) = _
    by_cases e : y = x
    · simp [e]
    · have e' : ¬ x = y := fun z => e z.symm
      simp [e, e']
theorem inV_str (x : Str) (xs : List Str) : inV (.str x) (xs.map .str) = decide (x ∈ xs) := by
  unfold inV
  rw [List.any_map]
  induction xs with
  | nil => rfl
  | cons y ys ih =>
    rw [List.any_cons, ih]
    show ((y == x) || _) = _
    by_cases e : y = x
    · simp [e]
    · have e' : ¬ x = y := fun z => e z.symm
      simp [e, e']
theorem k_in {X : Cx} (h : X.K = K := by rfl) : OpR X (compareOp .In) (rIn K false) := h ▸ op_in_seq
theorem k_notIn {X : Cx} (h : X.K = K := by rfl) : OpR X (compareOp .NotIn) (rIn K true) := h ▸ op_notIn_seq
theorem ed_inF {α : Type} {f : α → PyData} {g : α → V} {n : Bool} {x0 : α} {l : Bool} {xs : List α} (hf : ∀ a, flatD (f a) = some (g a)) (hc : inV (g x0) (xs.map g) = c) (ha : ED K ta ρ (f x0)) (hd : isSeqD d = some (l, xs.map f)) (hb : ED K tb ρ d) :
    ED K (tOp (rIn K n) ta tb) ρ (.bool (if n then !c else c)) := ed_op ha hb fun G H vx vy s hx hy Q q => by
  have ex := flatD_rp (hf x0) hx
  subst ex
  obtain ⟨p, vs, rfl, hs, _, ra⟩ := Rp.side hd hy
  have e := rpA_map hf ra
  subst e
  refine ⟨p.a, _, rfl, ?_, flatD_flat (hf x0), all_flat (fun a => flatD_flat (hf a)) xs, by rw [hc]; exact q _ G H (Grow.refl s) rfl⟩
  have := hs H s
  cases p with
  | l a => exact .inl this
  | t a => exact .inr this
theorem ed_inI {x : Int} {xs : List Int} {l : Bool} {n : Bool} (ha : ED K ta ρ (.int x)) (hb : ED K tb ρ d) (hd : isSeqD d = some (l, xs.map .int)) : ED K (tOp (rIn K n) ta tb) ρ (.bool (if n then !decide (x ∈ xs) else decide (x ∈ xs))) :=
  ed_inF (f := .int) (g := .int) (fun _ => rfl) (inV_int x xs) ha hd hb
theorem ed_inS {x : Str} {xs : List Str} {l : Bool} {n : Bool} (ha : ED K ta ρ (.str x)) (hb : ED K tb ρ d) (hd : isSeqD d = some (l, xs.map .str)) : ED K (tOp (rIn K n) ta tb) ρ (.bool (if n then !decide (x ∈ xs) else decide (x ∈ xs))) :=
  ed_inF (f := .str) (g := .str) (fun _ => rfl) (inV_str x xs) ha hd hb
/-! ### x in xs, at any depth -/
def rInA (K : PySem.W.Frag) (n : Bool) : R2 := fun x y H Q => ∃ d e l ds, Dp K H x d ∧ isSeqD e = some (l, ds) ∧ Dp K H y e ∧ d.canLay0 = true ∧ d.depth ≤ 60 ∧ PyData.canLayAll0 ds = true ∧ Q (.bl (if n then !(ds.any fun z => PyData.eqv z d) else ds.any fun z => PyData.eqv z d)) H
theorem k_inA {X : Cx} (hu : X.A.units + 64 < cLine) (h : X.K = K := by rfl) : OpR X (compareOp .In) (rInA K false) := by
  subst h
  intro pins s σ H x y v u Q I rx ry h
  obtain ⟨d, e, l, ds, hd, hl, he, sd, sd2, se, q⟩ := h
  obtain ⟨as, r1⟩ := Dp.reads I d x v hd rx
  obtain ⟨bs, r2⟩ := Dp.reads I e y u he ry
  have hr : X.A.units + 1 + min (PyData.depthAll ds) d.depth < cLine := by
    omega
  cases e with
  | list es => cases hl; exact SeqAt.in_list_reads r2 r1 se sd hr ⟨.bl _, H, I, rfl, q⟩
  | tuple es => cases hl; exact SeqAt.in_tuple_reads r2 r1 se sd hr ⟨.bl _, H, I, rfl, q⟩
  | _ => cases hl
theorem k_notInA {X : Cx} (hu : X.A.units + 64 < cLine) (h : X.K = K := by rfl) : OpR X (compareOp .NotIn) (rInA K true) := by
  subst h
  intro pins s σ H x y v u Q I rx ry h
  obtain ⟨d, e, l, ds, hd, hl, he, sd, sd2, se, q⟩ := h
  obtain ⟨as, r1⟩ := Dp.reads I d x v hd rx
  obtain ⟨bs, r2⟩ := Dp.reads I e y u he ry
  have hr : X.A.units + 1 + min (PyData.depthAll ds) d.depth < cLine := by
    omega
  cases e with
  | list es => cases hl; exact SeqAt.notIn_list_reads r2 r1 se sd hr ⟨.bl _, H, I, rfl, q⟩
  | tuple es => cases hl; exact SeqAt.notIn_tuple_reads r2 r1 se sd hr ⟨.bl _, H, I, rfl, q⟩
  | _ => cases hl
theorem canLay_seq {l : Bool} {e : PyData} {ds : List PyData} (h : isSeqD e = some (l, ds)) (c : PyData.canLayAll0 ds = true) : e.canLay0 = true := by
  cases e with
  | list es => cases h; exact c
  | tuple es => cases h; exact c
  | _ => cases h
theorem ed_inA {l n : Bool} {x e : PyData} {ds : List PyData} (ha : ED K ta ρ x) (hb : ED K tb ρ e) (hd : isSeqD e = some (l, ds)) (h1 : x.canLay0 = true) (h1' : x.depth ≤ 60) (h2 : PyData.canLayAll0 ds = true) :
    ED K (tOp (rInA K n) ta tb) ρ (.bool (if n then !(ds.any fun z => PyData.eqv z x) else ds.any fun z => PyData.eqv z x)) := ed_op ha hb fun G H vx vy s hx hy Q q =>
  ⟨x, e, l, ds, (hx.mono s).dp h1, hd, (hy.mono s).dp (canLay_seq hd h2), h1, h1', h2, q _ G H (Grow.refl s) rfl⟩
/-! ### list(range(a, b)), range(a, b, -1), t * k -/
theorem rgV_rng (a b : Int) : rgV a b = ((rng a (b - a).toNat).map V.int) := by
  unfold rgV rng
  rw [List.map_map]; rfl
theorem rpA_ints {G : Hp} : ∀ ns : List Int, RpA K G (ns.map .int) (ns.map V.int)
  | [] => rfl
  | n :: ns => ⟨.int n, _, rfl, rfl, rpA_ints ns⟩
theorem ed_listRg {i j : Int} (ha : ED K ta ρ (.int i)) (hb : ED K tb ρ (.int j)) (h0 : 0 ≤ i) (h1 : i ≤ 1000000) (h2 : 0 ≤ j) (h3 : j ≤ 1000000) : ED K (tLstRg (tRg2 ta tb)) ρ (.list ((rng i (j - i).toNat).map .int)) := fun H0 σ G H er s Q q =>
  ha H0 σ G H er s _ fun vx G1 H1 g1 r1 => hb H0 σ G1 H1 (er.grow g1) g1.gh _ fun vy G2 H2 g2 r2 => by
    cases r1; cases r2
    refine ⟨i, j, rfl, rfl, RgOk.of_le h0 (by omega) (by omega) h2, fun p hp => ?_⟩
    have g := g1.trans g2
    refine q _ _ _ (g.trans (Grow.new g.gh hp)) ⟨p, _, rfl, upd_same, ?_, ?_⟩
    · rw [List.length_map, rng_len]; show _ ≤ 1000000; omega
    · rw [rgV_rng]; exact rpA_ints _
theorem ed_listRg1 {j : Int} (hb : ED K tb ρ (.int j)) (h2 : 0 ≤ j) (h3 : j ≤ 1000000) : ED K (tLstRg (tRg1 tb)) ρ (.list ((rng 0 j.toNat).map .int)) := fun H0 σ G H er s Q q =>
  hb H0 σ G H er s _ fun vy G2 H2 g r2 => by
    cases r2
    refine ⟨j, rfl, RgOk.of_le (by omega) (by omega) (by omega) h2, fun p hp => ?_⟩
    refine q _ _ _ (g.trans (Grow.new g.gh hp)) ⟨p, _, rfl, upd_same, ?_, ?_⟩
    · rw [List.length_map, rng_len]; show _ ≤ 1000000; omega
    · rw [rgV_rng, Int.sub_zero]; exact rpA_ints _
/-- hi, hi - 1, .. above lo -/
def rngD (hi : Int) (n : Nat) : List Int := (List.range n).map fun (i : Nat) => hi - (i : Int)
theorem it_rngD {i j : Int} {ta : TA} (h : EDA K ta ρ [.int i, .int j, .int (-1)]) (h1 : -(2 ^ 62) ≤ i ∧ i < 2 ^ 62 ∧ -(2 ^ 62) ≤ j ∧ j < 2 ^ 62) : IT K (iRng3 ta) ρ ((rngD i (i - j).toNat).map .int) := fun H0 σ G H er s R q => h H0 σ G H er s _ fun vs G2 H2 g r => by
  obtain ⟨v, vs, rfl, e, v', vs', rfl, e', v2, vs2, rfl, e2, rfl⟩ := r
  cases e; cases e'; cases e2
  refine ⟨i, j, -1, _, rfl, RgC.neg h1.1 h1.2.1 h1.2.2.1 h1.2.2.2, q _ G2 H2 g ⟨fun k H s hk => ?_, fun k H s hk => ?_, fun k x H H' s hk y => ?_⟩⟩
  · show (i - j).toNat ≤ k
    rw [hk]; simp [rngD]
  · show k < (i - j).toNat
    simpa [rngD] using hk
  · obtain ⟨rfl, rfl⟩ := y
    have hk' : k < (i - j).toNat := by simpa [rngD] using hk
    refine ⟨G2, .int (i - (k : Int)), Grow.refl s, ?_, ?_⟩
    · unfold rngD
      rw [List.getElem?_map, List.getElem?_map, List.getElem?_range hk']; rfl
    · show V.int (i + (k : Int) * -1) = .int (i - (k : Int))
      congr 1; omega
theorem k_repT {X : Cx} (h : X.K = K := by rfl) : OpR X (binaryOp .Mult) (rRepT K) := h ▸ op_repT
theorem rpA_rep {G : Hp} {ds : List PyData} {vs : List V} (r : RpA K G ds vs) : ∀ n : Nat, RpA K G (List.replicate n ds).flatten (List.replicate n vs).flatten
  | 0 => rfl
  | n + 1 => by
    rw [List.replicate_succ, List.replicate_succ, List.flatten_cons, List.flatten_cons]
    exact r.append (rpA_rep r n)
theorem len_rep {α : Type} (xs : List α) (n : Nat) : (List.replicate n xs).flatten.length = n * xs.length := by
  rw [List.length_flatten, List.map_replicate, List.sum_replicate_nat]
theorem ed_repT {k : Int} (ha : ED K ta ρ (.tuple ds)) (hb : ED K tb ρ (.int k)) (h0 : ds ≠ []) (h1 : 2 ≤ k) (h2 : k ≤ 1000) (h3 : ds.length ≤ 1000) : ED K (tOp (rRepT K) ta tb) ρ (.tuple (List.replicate k.toNat ds).flatten) :=
  ed_op ha hb fun G H v w s hx hy Q q => by
    cases hy
    obtain ⟨a, xs, rfl, h4, h5, h6⟩ := hx
    have l := h6.length
    refine ⟨a, k, xs, rfl, rfl, same_t s h4, fun z => h0 ?_, h1, h2, by omega, fun p hp => ?_⟩
    · rw [z] at l; exact List.eq_nil_of_length_eq_zero l.symm
    · refine q _ _ _ (Grow.new s hp) ⟨p, _, rfl, upd_same, ?_, (rpA_rep h6 k.toNat).mono (same_upd (Same.back s hp))⟩
      rw [len_rep]
      have a1 : k.toNat * ds.length ≤ 1000 * 1000 := Nat.mul_le_mul (by omega) h3
      exact Nat.le_trans a1 (by decide)
end
end D2

set_option Elab.async false
set_option linter.all false
set_option maxRecDepth 100000
set_option maxHeartbeats 4000000
namespace D2
open PySem PySem.Spec PyProof.Rows L2
/-! ### [e for x in xs if .. for y in ys if ..] -/
section
variable {K : PySem.W.Frag} {ρ : Sls K} {wi wi1 : TI} {g g1 : TG} {tt tt1 : TT} {te : TE} {vs vs1 : List Nat} {ds : List PyData}
/-- the inner clause's own yield -/
def InnerOk (K : PySem.W.Frag) (wi1 : TI) (g1 : TG) (tt1 : TT) (te : TE) (vs1 : List Nat) (ρ' : Sls K) (out : List PyData) : Prop :=
  ∃ steps : List (PyData × Option PyData), IT K wi1 ρ' (steps.map (·.1)) ∧ out = steps.filterMap (·.2) ∧
    ∀ s ∈ steps, ∃ ρ2 b, GD K g1 (wipeD ρ' vs1) s.1 ρ2 vs1 ∧ ET K tt1 ρ2 b ∧ (b = true → ∃ e, ED K te ρ2 e ∧ s.2 = some e) ∧ (b = false → s.2 = none)
theorem inner_map {α : Type} {ys : List α} {f h : α → PyData} (hs : IT K wi1 ρ (ys.map f)) (hb : ∀ y ∈ ys, ∃ ρ', GD K g1 (wipeD ρ vs1) (f y) ρ' vs1 ∧ ED K te ρ' (h y)) : InnerOk K wi1 g1 tYes te vs1 ρ (ys.map h) := by
  refine ⟨ys.map fun y => (f y, some (h y)), by rw [List.map_map]; exact hs, ?_, fun s hs => ?_⟩
  · rw [List.filterMap_map]
    show _ = ys.filterMap fun y => some (h y)
    rw [List.filterMap_eq_map']
  · obtain ⟨y, hy, rfl⟩ := List.mem_map.mp hs
    obtain ⟨ρ', a, b⟩ := hb y hy
    exact ⟨ρ', true, a, fun H0 σ G H er s Q q => q H (Same.refl H), fun _ => ⟨h y, b, rfl⟩, fun z => by cases z⟩
theorem inner_filter {α : Type} {ys : List α} {f h : α → PyData} (p : α → Bool) (hs : IT K wi1 ρ (ys.map f)) (hb : ∀ y ∈ ys, ∃ ρ', GD K g1 (wipeD ρ vs1) (f y) ρ' vs1 ∧ ET K tt1 ρ' (p y) ∧ (p y = true → ED K te ρ' (h y))) :
    InnerOk K wi1 g1 tt1 te vs1 ρ ((ys.filter p).map h) := by
  refine ⟨ys.map fun y => (f y, if p y = true then some (h y) else none), by rw [List.map_map]; exact hs, ?_, fun s hs => ?_⟩
  · rw [List.filterMap_map]
    show _ = ys.filterMap fun y => if p y = true then some (h y) else none
    rw [← List.filterMap_eq_map', List.filterMap_filter]
  · obtain ⟨y, hy, rfl⟩ := List.mem_map.mp hs
    obtain ⟨ρ', a, b, c⟩ := hb y hy
    exact ⟨ρ', p y, a, b, fun z => ⟨h y, c z, by show (if p y = true then some (h y) else none) = _; rw [if_pos z]⟩, fun z => by show (if p y = true then some (h y) else none) = _; rw [if_neg (by rw [z]; exact Bool.false_ne_true)]⟩
theorem wipe_wipe (vs : List Nat) (σ : L2.St) : L2.wipe (L2.wipe σ vs) vs = L2.wipe σ vs := by
  apply List.ext_getElem?
  intro j
  by_cases hj : j ∈ vs
  · rw [wipe_in vs j hj, wipe_in vs j hj, L2.wipe_length]
  · rw [wipe_get vs j hj]
theorem take_flat {α : Type} (sub : α → List PyData) (xs : List α) (i : Nat) (x : α) (h : xs[i]? = some x) : (xs.take (i + 1)).flatMap sub = (xs.take i).flatMap sub ++ sub x := by
  rw [List.take_add_one, h, List.flatMap_append]; simp
theorem FrOk.top {H0 G H : Hp} {σ : L2.St} {D : Addr} (o : HO) (h : FrOk K H0 G H ρ σ) (hD : H D = none) : FrOk K (upd H0 D o) G H ρ σ := by
  obtain ⟨fps, h1, h2⟩ := h.own
  refine ⟨h.len, h.get, fps, fun i A q => ?_, h2⟩
  obtain ⟨v, a, b, c⟩ := h1 i A q
  exact ⟨v, a, b, fun p hp => ⟨(c p hp).1, by rw [upd_ne (fun e => (c p hp).2.2.ne (by rw [e]; exact hD))]; exact (c p hp).2.1, (c p hp).2.2⟩⟩
theorem FrOk.acc {H0 G H : Hp} {σ : L2.St} {D : Addr} {o : HO} (h : FrOk K H0 G H ρ σ) (hD : H0 D ≠ none) : FrOk K H0 G (upd H D o) ρ σ := by
  obtain ⟨fps, h1, h2⟩ := h.own
  refine ⟨h.len, h.get, fps, fun i A q => ?_, h2⟩
  obtain ⟨v, a, b, c⟩ := h1 i A q
  have ne : ∀ p ∈ fps i, p ≠ D := fun p hp e => hD (by rw [← e]; exact (c p hp).2.1)
  exact ⟨v, a, A.loc b (Same.refl G) fun p hp => upd_ne (ne p hp), fun p hp => ⟨(c p hp).1, (c p hp).2.1, (c p hp).2.2.eq (upd_ne (ne p hp))⟩⟩
theorem ed_lc2 {α : Type} {xs : List α} {f : α → PyData} {sub : α → List PyData} (hs : IT K wi ρ (xs.map f)) (hl : (xs.flatMap sub).length ≤ LIM)
    (hb : ∀ x ∈ xs, ∃ ρ' b, GD K g (wipeD ρ vs) (f x) ρ' vs ∧ ET K tt ρ' b ∧ (b = true → InnerOk K wi1 g1 tt1 te vs1 ρ' (sub x)) ∧ (b = false → sub x = [])) :
    ED K (tLc2 wi g tt wi1 g1 tt1 te vs vs1) ρ (.list (xs.flatMap sub)) := fun H0 σ G H er s Q q => hs H0 σ G H er s _ fun J G2 H2 g2 it D hD => by
  have hG2 : G2 D = none := Same.back g2.gh hD
  have er := er.top (.lst []) (Same.back g2.hh hD)
  generalize hH0 : upd H0 D (.lst []) = H0 at er
  have h0D : H0 D ≠ none := by rw [← hH0, upd_same]; exact fun z => by cases z
  refine ⟨fun i m Hi => m = xs.length - i ∧ i ≤ xs.length ∧ ∃ Gi acc, Grow G2 H2 Gi Hi ∧ Gi D = none ∧ Hi D = some (.lst acc) ∧ RpA K Gi ((xs.take i).flatMap sub) acc, ⟨xs.length, rfl, Nat.zero_le _, G2, [], ?_, hG2, upd_same, rfl⟩, ?_⟩
  · exact Grow.quiet g2.gh (same_upd hD)
  rintro i m Hi ⟨rfl, hi, Gi, acc, gi, hGi, hHi, ra⟩
  by_cases hlt : i < xs.length
  · have hlt' : i < (xs.map f).length := by simpa using hlt
    refine .inr ⟨it.go i Hi (gi.gg.trans gi.gh) hlt', fun H' => ∃ Gi acc, Grow G2 H2 Gi H' ∧ Gi D = none ∧ H' D = some (.lst acc) ∧ RpA K Gi ((xs.take (i + 1)).flatMap sub) acc, fun H' ⟨Gi, acc, q1, q2, q3, q4⟩ => ⟨xs.length - (i + 1), by omega, rfl, hlt, Gi, acc, q1, q2, q3, q4⟩, fun x H' y => ?_⟩
    obtain ⟨G', d, g', hd, rx⟩ := (it.mono gi.gg).yld i x Hi H' gi.gh hlt' y
    obtain ⟨x0, hx0⟩ := lt_get hlt
    have ed : d = f x0 := by
      rw [List.getElem?_map, hx0] at hd
      exact (Option.some.inj hd).symm
    subst ed
    have hne : Mu Hi D := .of hHi
    have hG' : G' D = none := g'.sep D hGi hne
    have hH' : H' D = some (.lst acc) := g'.hh _ _ hHi
    obtain ⟨ρ', b, hg, ht, h1, h0⟩ := hb x0 (List.mem_of_getElem? hx0)
    have er' : FrOk K H0 G' H' (wipeD ρ vs) (L2.wipe σ vs) := (er.grow ((g2.trans gi).trans g')).wipe vs
    refine hg H0 (L2.wipe σ vs) G' H' x er' g'.gh rx _ fun σ2 er2 w2 => ⟨?_, ht H0 σ2 G' H' er2 g'.gh _ fun H3 e3 => ?_⟩
    · rw [w2, wipe_wipe]
    have gg3 : Grow G2 H2 G' H3 := (gi.trans g').trans (Grow.quiet g'.gh e3)
    have hH3 := e3 _ _ hH'
    cases b with
    | false =>
      refine iteF ⟨G', acc, gg3, hG', hH3, ?_⟩
      rw [take_flat sub xs i x0 hx0, h0 rfl, List.append_nil]
      exact ra.mono g'.gg
    | true =>
      obtain ⟨steps, his, hout, hst⟩ := h1 rfl
      have er3 := er2.quiet g'.gh e3
      refine iteT (his H0 σ2 G' H3 er3 (g'.gh.trans e3) _ fun J1 G4 H4 g4 it1 => ?_)
      have hne3 : Mu H3 D := .of hH3
      have hG4 : G4 D = none := g4.sep D hG' hne3
      have gg4 := gg3.trans g4
      refine ⟨fun j m Hj => m = steps.length - j ∧ j ≤ steps.length ∧ ∃ Gj acc, Grow G2 H2 Gj Hj ∧ Same G4 Gj ∧ FrOk K H0 Gj Hj ρ' σ2 ∧ Gj D = none ∧ Hj D = some (.lst acc) ∧ RpA K Gj ((xs.take i).flatMap sub ++ (steps.take j).filterMap (·.2)) acc,
        ⟨steps.length, rfl, Nat.zero_le _, G4, acc, gg4, Same.refl _, er3.grow g4, hG4, g4.hh _ _ hH3, ?_⟩, ?_⟩
      · rw [List.take_zero, List.filterMap_nil, List.append_nil]
        exact ra.mono (g'.gg.trans g4.gg)
      rintro j m Hj ⟨rfl, hj, Gj, accj, gj, sj, erj, hGj, hHj, raj⟩
      by_cases hjl : j < steps.length
      · have hjl' : j < (steps.map (·.1)).length := by simpa using hjl
        refine .inr ⟨it1.go j Hj (sj.trans gj.gh) hjl', fun H' => ∃ Gj acc, Grow G2 H2 Gj H' ∧ Same G4 Gj ∧ FrOk K H0 Gj H' ρ' σ2 ∧ Gj D = none ∧ H' D = some (.lst acc) ∧ RpA K Gj ((xs.take i).flatMap sub ++ (steps.take (j + 1)).filterMap (·.2)) acc, fun H' ⟨Gj, acc, q1, q2, q3, q4, q5, q6⟩ => ⟨steps.length - (j + 1), by omega, rfl, hjl, Gj, acc, q1, q2, q3, q4, q5, q6⟩, fun x1 H5 y1 => ?_⟩
        obtain ⟨G5, d1, g5, hd1, rx1⟩ := (it1.mono sj).yld j x1 Hj H5 gj.gh hjl' y1
        obtain ⟨st, hst0⟩ := lt_get hjl
        have ed1 : d1 = st.1 := by
          rw [List.getElem?_map, hst0] at hd1
          exact (Option.some.inj hd1).symm
        subst ed1
        have hnej : Mu Hj D := .of hHj
        have hG5 : G5 D = none := g5.sep D hGj hnej
        have hH5 : H5 D = some (.lst accj) := g5.hh _ _ hHj
        obtain ⟨ρ2, b1, hg1, ht1, k1, k0⟩ := hst st (List.mem_of_getElem? hst0)
        have erj5 := erj.grow g5
        have er4 : FrOk K H0 G5 H5 (wipeD ρ' vs1) (L2.wipe σ2 vs1) := erj5.wipe vs1
        refine hg1 H0 (L2.wipe σ2 vs1) G5 H5 x1 er4 g5.gh rx1 _ fun σ3 er3 w3 => ⟨?_, ht1 H0 σ3 G5 H5 er3 g5.gh _ fun H6 e6 => ?_⟩
        · rw [w3, wipe_wipe]
        have gg6 : Grow G2 H2 G5 H6 := (gj.trans g5).trans (Grow.quiet g5.gh e6)
        have hH6 := e6 _ _ hH5
        cases b1 with
        | false =>
          refine iteF ⟨G5, accj, gg6, sj.trans g5.gg, erj5.quiet g5.gh e6, hG5, hH6, ?_⟩
          rw [take_fm (·.2) steps j st hst0, k0 rfl]
          simpa using raj.mono g5.gg
        | true =>
          obtain ⟨e, he, hse⟩ := k1 rfl
          have erj6 := erj5.quiet g5.gh e6
          refine iteT (he H0 σ3 G5 H6 (er3.quiet g5.gh e6) (g5.gh.trans e6) _ fun y G7 H7 g7 ry => ?_)
          have hne6 : Mu H6 D := .of hH6
          have hG7 : G7 D = none := g7.sep D hG5 hne6
          have hD7 : H7 D = some (.lst accj) := g7.hh _ _ hH6
          have lacc : accj.length ≤ LIM := by
            rw [raj.length, List.length_append]
            have a1 := congrArg List.length hout
            have a2 : ((steps.take j).filterMap (·.2)).length ≤ (steps.filterMap (·.2)).length := ((List.take_sublist j steps).filterMap _).length_le
            have a3 : ((xs.take (i + 1)).flatMap sub).length ≤ (xs.flatMap sub).length := by
              conv => rhs; rw [← List.take_append_drop (i + 1) xs, List.flatMap_append, List.length_append]
              exact Nat.le_add_right _ _
            rw [take_flat sub xs i x0 hx0, List.length_append] at a3
            omega
          have gg7 := gg6.trans g7
          refine ⟨accj, hD7, lim_lt lacc, G7, accj ++ [y], ⟨gg7.gg, fun a o z => ?_, fun a o z => ?_, gg7.sep⟩, (sj.trans g5.gg).trans g7.gg, (erj6.grow g7).acc h0D, hG7, upd_same, ?_⟩
          · rw [upd_ne (ne_of_none z hD)]; exact gg7.hh a o z
          · rw [upd_ne (ne_of_none z hG7)]; exact gg7.gh a o z
          · rw [take_fm (·.2) steps j st hst0, hse, ← List.append_assoc]
            exact (raj.mono (g5.gg.trans g7.gg)).snoc ry
      · have e : j = steps.length := by omega
        subst e
        refine .inl ⟨it1.stop _ Hj (sj.trans gj.gh) (by simp), Gj, accj, gj, hGj, hHj, ?_⟩
        rw [take_flat sub xs i x0 hx0, hout]
        rw [List.take_length] at raj
        exact raj
  · have e : i = xs.length := by omega
    subst e
    refine .inl ⟨it.stop _ Hi (gi.gg.trans gi.gh) (by simp), ?_⟩
    rw [List.take_length] at ra
    have hne : ∀ a, H2 a ≠ none → a ≠ D := fun a z e => z (by rw [e]; exact hD)
    refine q _ (upd Gi D (.lst acc)) Hi ⟨(g2.gg.trans gi.gg).trans (same_upd hGi), g2.hh.trans gi.hh, fun a o z => ?_, fun a z1 z2 => ?_⟩ ⟨D, acc, rfl, upd_same, hl, ra.mono (same_upd hGi)⟩
    · by_cases ha : a = D
      · subst ha; rw [upd_same] at z; cases z; exact hHi
      · rw [upd_ne ha] at z; exact gi.gh a o z
    · have h2 : Mu H2 a := z2.up g2.hh
      rw [upd_ne (hne a h2.ne)]
      exact gi.sep a (g2.sep a z1 z2) h2
theorem flat_map {α β : Type} (f : β → PyData) (sub : α → List β) (xs : List α) : (xs.flatMap fun x => (sub x).map f) = (xs.flatMap sub).map f := by rw [List.map_flatMap]
/-- [e for x in xs for y in ys] -/
theorem ed_lc2_map {α : Type} {xs : List α} {f : α → PyData} {sub : α → List PyData} (hs : IT K wi ρ (xs.map f)) (hl : (xs.flatMap sub).length ≤ LIM)
    (hb : ∀ x ∈ xs, ∃ ρ', GD K g (wipeD ρ vs) (f x) ρ' vs ∧ InnerOk K wi1 g1 tt1 te vs1 ρ' (sub x)) : ED K (tLc2 wi g tYes wi1 g1 tt1 te vs vs1) ρ (.list (xs.flatMap sub)) :=
  ed_lc2 hs hl fun x hx => by
    obtain ⟨ρ', a, b⟩ := hb x hx
    exact ⟨ρ', true, a, fun H0 σ G H er s Q q => q H (Same.refl H), fun _ => b, fun z => by cases z⟩
end
end D2

set_option Elab.async false
set_option linter.all false
set_option maxRecDepth 100000
set_option maxHeartbeats 4000000
namespace PySem
open Sem (wp)
open AutoSeq1 (wpAny_loadPart')
theorem meets_enumerate_new1B {v : Value} {o : Obj} {H : Heap → Prop} (B : Begins v o H) :
    Meets (Builtin.«enumerate.__new__» ⟨[.type "enumerate", v], []⟩) (fun _ R s => H s.heap ∧
      R (.ok (.ret (.ref (s.heap.push o).objs.size))) { s with heap := (s.heap.push o).push { cls := .type "enumerate", data := .fields #[.none, .bool false, .ref s.heap.objs.size, rawInt 0, .none, .none] } }) :=
  .of_wp fun prog w A R s h => by
    obtain ⟨hp, g, d, tk, os⟩ := s; obtain ⟨h1, h⟩ := h
    have hsub := sub_enumerate
    have q1 : ∀ {A' : Around} {E : Value → Shared → Prop} {Q : Value → Shared → Prop}, Q (.ref hp.objs.size) ⟨hp.push o, g, d, tk, os⟩ → wpAny (model prog w) A' (pyIter v) Q E ⟨hp, g, d, tk, os⟩ :=
      fun q => B.iter prog w _ _ ⟨hp, g, d, tk, os⟩ _ h1 q
    wp_walk using q1
    refine wpAny_stack_any fun st => wpAny_pure ?_
    split
    · rename_i c _ _ _ _ _
      cases (c == Value.type "enumerate")
      · wp_walk using q1
        exact ⟨_, rfl, h⟩
      · wp_walk using q1
        exact ⟨_, rfl, h⟩
    · wp_walk using q1
      exact ⟨_, rfl, h⟩
theorem enum_begins1 {prog : Program} {w : World} {A : Around} {E : Value → Shared → Prop} {s : Shared} {v : Value} {o : Obj} {H : Heap → Prop} {Q : Value → Shared → Prop} (B : Begins v o H) (h1 : H s.heap)
    (h : ∀ h', IsEnum h' (s.heap.objs.size + 1) s.heap.objs.size 0 .none → h'.get? s.heap.objs.size = some o → h'.objs.size = s.heap.objs.size + 2 →
      (∀ b o, s.heap.get? b = some o → h'.get? b = some o) → Q (.ref (s.heap.objs.size + 1)) { s with heap := h' }) :
    wpAny (model prog w) A (call (.type "enumerate") [v]) Q E s := by
  refine callType_new F.called_enumerate (by decide) (F.typeCall_enumerate_1 _) (F.newCall_enumerate_1 _) (fun obj => F.args_object_init_2 obj _) F.entry_enumerate_new
    (meets_enumerate_new1B B) ⟨h1, ?_⟩
  have hz : (s.heap.push o).objs.size = s.heap.objs.size + 1 := Heap.size_push ..
  show _ ∧ _
  rw [hz]
  have he : IsEnum ((s.heap.push o).push { cls := .type "enumerate", data := .fields #[.none, .bool false, .ref s.heap.objs.size, rawInt 0, .none, .none] }) (s.heap.objs.size + 1) s.heap.objs.size 0 .none := by
    have := Heap.get?_push_size (s.heap.push o) (o := { cls := .type "enumerate", data := .fields #[.none, .bool false, .ref s.heap.objs.size, rawInt 0, .none, .none] }) rfl
    rw [hz] at this; exact this
  refine ⟨⟨_, he, rfl⟩, h _ he (Heap.get?_push_of_some _ (Heap.get?_push_size _ B.free)) (by rw [Heap.size_push, hz]) fun b o x => Heap.get?_push_of_some _ (Heap.get?_push_of_some _ x)⟩
end PySem
namespace D2
open PySem PySem.Spec PyProof.Rows L2
open PySem (IsZip Draws ZipSep2 IsTupOf2 ZipApart)
/-! ### enumerate of lists and tuples -/
def IteM (K : PySem.W.Frag) (a : Sd) : It :=
  ⟨fun i H => ∃ (xs : List V) (x : V), SqS K H a xs ∧ xs[i]? = some x, fun i H v H' => ∃ T x, v = .ref T ∧ H T = none ∧ H' = upd H T (.tup [.int (i : Nat), x]) ∧ ∀ xs, SqS K H a xs → xs[i]? = some x, fun i H => ∃ xs : List V, SqS K H a xs ∧ i = xs.length⟩
theorem turn_enumM {P : Program} {w : World} {K : PySem.W.Frag} {elts : List Expr} {kk : Nat} {tpos : Pos} (a : Sd) (e it : Addr) (hai : a.a ≠ it) (hae : a.a ≠ e) :
    Turn P w K (.Tuple elts kk tpos) (IteM K a) [e, it] e (fun i h => (∃ old, IsEnum h e it ((i : Nat) : Int) old) ∧ ItAt h it a i ∧ e ≠ it) where
  mem := by simp
  obj := fun i h st b hb => by
    obtain ⟨⟨old, he⟩, hit, _⟩ := st
    have e' : b = e ∨ b = it := by simpa using hb
    rcases e' with z | z
    · rw [z]; exact ⟨_, he, fun v q => nomatch q⟩
    · rw [z]; exact hit.obj
  keep := fun i h h' st k => let ⟨⟨old, he⟩, hi, hne⟩ := st; ⟨⟨old, k e (by simp) _ he⟩, hi.at fun o q => k it (by simp) o q, hne⟩
  item := by
    intro X hP hw hK hc i pins s σ H E I hf st hg
    subst hP hw hK
    obtain ⟨⟨old, he⟩, hit, hne⟩ := st
    obtain ⟨xs, x, hq, hx⟩ := hg
    obtain ⟨its, rv, p, hz⟩ := Inv.side I hq
    obtain ⟨u, hu, ru⟩ := rv.get hx
    have hel : e < s.heap.objs.size := Heap.lt_size he
    have hil : it < s.heap.objs.size := by obtain ⟨_, q, _⟩ := hit.obj; exact Heap.lt_size q
    have n1 : i < its.toArray.size := by rw [List.size_toArray]; exact (List.getElem?_eq_some_iff.mp hu).1
    refine wpAny_pyNext_enum_itemD (Draws.side (A := X.A.in1) (I.ok.hd hc) it a hai its.toArray) he ⟨hit, p⟩ n1 hne (by simp only [List.mem_cons, List.not_mem_nil, or_false, not_or]; exact ⟨hne, Ne.symm hae⟩) fun v h' tk ev ho st' hT hsz hk => ?_
    have ev1 : v = u := by rw [List.getElem?_toArray, hu] at ev; exact (Option.some.inj ev).symm
    subst ev1
    refine ⟨_, rfl, wpAny_letOwnedTupleGo_enum (s := { s with heap := h', toks := tk + 1 }) ho fun h'' he' sb => ?_⟩
    have hT2 : h''.get? s.heap.objs.size = some { cls := .type "tuple", data := .seq #[.int i tk, v] } := (sb.2 _ (Nat.ne_of_gt hel)).trans hT
    have new : ObjOk X.prog X.w (upd H s.heap.objs.size (.tup [.int (i : Nat), x])) h'' s.heap.objs.size (.tup [.int (i : Nat), x]) :=
      ⟨by show 2 ≤ sizeLine; decide, [.int i tk, v], .cons ⟨_, rfl⟩ (.cons ru .nil), ⟨_, hT2, rfl, _, rfl⟩⟩
    have I1 : Inv X pins σ (upd H s.heap.objs.size (.tup [.int (i : Nat), x])) { s with heap := h'', toks := tk + 1 } :=
      I.turnedNew (ch := [e, it]) (fun b ob hb q => (sb.2 b (fun z => hb (by simp [z]))).trans (hk b ob (fun z => hb (by simp [z])) (fun z => hb (by simp [z])) q)) hf (Nat.le_refl _) new
    refine ⟨.ref s.heap.objs.size, _, I1, rfl, ⟨_, x, rfl, I.hok.fresh (Nat.le_refl _), rfl, fun ys hy => by rw [Inv.side_inj I hy hq]; exact hx⟩, ⟨⟨v, ?_⟩, st'.1.at fun o q => (sb.2 it (Ne.symm hne)).trans q, hne⟩, fun b hb => ?_⟩
    · have e1 : ((i + 1 : Nat) : Int) = (i : Int) + 1 := by omega
      rw [e1]; exact he'
    · have hb' : b < s.heap.objs.size := by
        have e' : b = e ∨ b = it := by simpa using hb
        rcases e' with z | z
        · rw [z]; exact hel
        · rw [z]; exact hil
      rw [upd_ne (Nat.ne_of_lt hb')]
      exact (hf b hb).1
  done := by
    intro X hP hw hK hc i pins s σ H E I hf st hg
    subst hP hw hK
    obtain ⟨⟨old, he⟩, hit, hne⟩ := st
    obtain ⟨xs, hq, hx⟩ := hg
    obtain ⟨its, rv, p, hz⟩ := Inv.side I hq
    obtain ⟨f0, f1, f2, f3, f4, f5⟩ := hf it (by simp)
    have hl := rv.length
    subst hx
    exact wpAny_pyNext_enum_endD (Draws.side (A := X.A.in1) (I.ok.hd hc) it a hai its.toArray) he ⟨by rw [List.size_toArray, ← hl]; exact hit, p⟩ fun h' eb => ⟨rfl, I.turned (t' := s.toks) (fun b o hb q => eb b o hb q) f0 f1 f3 f4 f5⟩
  self := fun A i s Q E st h => let ⟨⟨_, he⟩, _⟩ := st; wpAny_pyIter_enum he h
def iEnumM (K : PySem.W.Frag) (ta : TA) : TI := fun σ H R => ta σ H fun vs H1 => ∃ (a : Sd) (xs : List V), vs = [.ref a.a] ∧ SqS K H1 a xs ∧ R (IteM K a) H1
theorem pi_enumM {X : Cx} {K : PySem.W.Frag} {e : Expr} {ta : TA} {p pos tpos : Pos} {elts : List Expr} {kk : Nat} (hg : Gl X "enumerate") (hm : X.mg "enumerate" = none) (ha : PA X [e] ta) (hK : X.K = K := by rfl) (hs : starEach [e] X.env = [(false, eval e X.env)] := by rfl) :
    PI X (.Tuple elts kk tpos) (.Call (.Name "enumerate" p) [e] [] pos) (iEnumM K ta) := by
  subst hK
  refine ⟨fun pins s σ H R I h => ?_⟩
  refine PyProof.Rows.Call_ (ld_blt I hg hm boot_enumerate (PyProof.Rows.callWith_type1 (thn (ha.run pos pins s σ H _ I h) fun us s1 ⟨vs, H1, I1, r1, q1⟩ => ?_) hs rfl))
  obtain ⟨a, xs, ex, hq, q⟩ := q1
  subst ex
  cases r1 with
  | cons r rr =>
    cases rr
    cases r
    obtain ⟨its, rv, p', hz⟩ := Inv.side I1 hq
    refine enum_begins1 (Begins.side a its.toArray) p' fun h' he hit hsz hk => wpAny_pyIter_enum he ?_
    have I2 : Inv X pins σ H1 { s1 with heap := h' } := I1.kept (t' := s1.toks) hk
    have hl := p'.lt
    refine ⟨s1.heap.objs.size + 1, [s1.heap.objs.size + 1, s1.heap.objs.size], _, _, H1, rfl, I2, turn_enumM a (s1.heap.objs.size + 1) s1.heap.objs.size (Nat.ne_of_lt hl) (Nat.ne_of_lt (Nat.lt_succ_of_lt hl)), ⟨⟨.none, he⟩, ItAt.zero hit, Nat.succ_ne_self _⟩, fun b hb => ?_, q⟩
    have e' : b = s1.heap.objs.size + 1 ∨ b = s1.heap.objs.size := by simpa using hb
    have hle : s1.heap.objs.size ≤ b := by
      rcases e' with z | z
      · rw [z]; exact Nat.le_add_right _ _
      · rw [z]; exact Nat.le_refl _
    exact I1.fpOk hle (I1.hok.fresh hle)
theorem it_enum {K : PySem.W.Frag} {ρ : Sls K} {ta : TA} {d : PyData} {b : Bool} {α : Type} {f : α → PyData} {xs : List α} (h : EDA K ta ρ [d]) (h1 : isSeqD d = some (b, xs.map f)) : IT K (iEnumM K ta) ρ (xs.zipIdx.map fun p => .tuple [.int ((p.2 : Nat) : Int), f p.1]) := fun H0 σ G H er s R q => h H0 σ G H er s _ fun vs G2 H2 g r => by
  obtain ⟨v, vs, rfl, r1, rfl⟩ := r
  obtain ⟨p, us, rfl, p2, p3, p4⟩ := Rp.side h1 r1
  have l1 := p4.length
  rw [List.length_map] at l1
  have lz : (xs.zipIdx.map fun p => PyData.tuple [.int ((p.2 : Nat) : Int), f p.1]).length = xs.length := by simp
  refine ⟨p, us, rfl, p2 H2 g.gh, q _ G2 H2 g ⟨fun i H s hi => ?_, fun i H s hi => ?_, fun i x H H' s hi y => ?_⟩⟩
  all_goals rw [lz] at hi
  · exact ⟨us, p2 H s, by omega⟩
  · obtain ⟨x, hx⟩ := lt_get (xs := us) (i := i) (by omega)
    exact ⟨us, x, p2 H s, hx⟩
  · obtain ⟨T, x1, rfl, hT, rfl, f1⟩ := y
    obtain ⟨d1, hd1⟩ := lt_get (xs := xs) (i := i) (by omega)
    obtain ⟨v1, hv1, rv1⟩ := p4.get (i := i) (d := f d1) (by rw [List.getElem?_map, hd1]; rfl)
    have q1 := f1 us (p2 H s)
    rw [hv1] at q1; cases q1
    have sm := same_upd (o := .tup [.int (i : Nat), x1]) (Same.back s hT)
    refine ⟨_, .tuple [.int ((i : Nat) : Int), f d1], Grow.new s hT, ?_, ⟨T, _, rfl, upd_same, by show 2 ≤ LIM; decide, ⟨_, _, rfl, rfl, x1, _, rfl, rv1.mono sm, rfl⟩⟩⟩
    rw [List.getElem?_map, List.getElem?_zipIdx, hd1]
    simp
end D2

set_option Elab.async false
set_option linter.all false
set_option maxRecDepth 100000
set_option maxHeartbeats 4000000
namespace PySem
open Sem (wp)
section
variable {prog : Program} {w : World} {A : Around} {E : Value → Shared → Prop} {s : Shared} {z TI TO T i1 i2 : Addr} {fp1 fp2 : List Addr} {n1 n2 i : Nat} {P1 P2 : Nat → Value → Prop} {St1 St2 : Nat → Heap → Prop} {f : Bool} {oT : Obj}
theorem zipD2_next_item_held {Q : Value → Shared → Prop} (S : ZipSep2 z TI TO i1 i2 fp1 fp2) (D1 : Draws prog w A i1 fp1 n1 P1 St1) (D2 : Draws prog w A i2 fp2 n2 P2 St2)
    (hz : IsZipHeld s.heap z TI TO T f) (hT : s.heap.get? T = some oT) (hTI : IsTupOf2 s.heap TI (.ref i1) (.ref i2)) (st1 : St1 i s.heap) (st2 : St2 i s.heap) (hlt1 : i < n1) (hlt2 : i < n2)
    (hQ : ∀ x1 x2 h' tk, P1 i x1 → P2 i x2 → IsZipHeld h' z TI TO T true → St1 (i + 1) h' → St2 (i + 1) h' → IsTupOf2 h' s.heap.objs.size x1 x2 → h'.objs.size = s.heap.objs.size + 1 →
      (∀ c o, c ≠ z → c ≠ i1 → c ≠ i2 → s.heap.get? c = some o → h'.get? c = some o) → Q (.ref s.heap.objs.size) { s with heap := h', toks := tk }) :
    wpAny (model prog w) A (Builtin.«zip.__next__» ⟨[.ref z], []⟩) (fun fin s' => ∃ v, fin = .done (.ret v) ∧ Q v s') E s := by
  obtain ⟨hp, g, d, tk0, os⟩ := s
  show wpAny _ _ (field (.ref z) 2 >>= _) _ _ _
  refine wpAny_bind (wpAny_field hz rfl (x := .bool false) rfl ?_)
  show wpAny _ _ (field (.ref z) 3 >>= _) _ _ _
  refine wpAny_bind (wpAny_field hz rfl (x := .ref TI) rfl ?_)
  refine wpAny_bind (wpAny_seqItems hTI rfl ?_)
  show wpAny _ _ (Builtin.SmallTypes.ownedTupleIsFree (.ref z) >>= _) _ _ _
  refine wpAny_bind (wpAny_tupleHeld_zip hz hT fun h₁ hz₁ hs₁ => ?_)
  replace hs₁ : Heap.SameBut z hp h₁ := hs₁
  simp only [Bool.false_eq_true, if_false]
  refine wpAny_bind ?_
  rw [← Array.forIn_toList]
  simp only [List.forIn_cons, List.forIn_nil]
  refine wpAny_bind (wpAny_bind (wpAny_holding ?_))
  show wpAny _ _ (Builtin.SmallTypes.nextOf (.ref i1) >>= _) _ _ ⟨h₁, g, d, tk0, os⟩
  refine wpAny_bind (D1.item i _ _ _ hlt1 (D1.over st1 hs₁ S.zf1) fun x1 p1 tk1 hx1 sn1 hp1 => wpAny_pure ?_)
  replace hp1 : Heap.SameBut i1 h₁ p1 := hp1
  refine wpAny_pure ?_
  refine wpAny_bind (wpAny_bind (wpAny_holding ?_))
  show wpAny _ _ (Builtin.SmallTypes.nextOf (.ref i2) >>= _) _ _ ⟨p1, g, d, tk1, os⟩
  refine wpAny_bind (D2.item i _ _ _ hlt2 (D2.over (D2.over st2 hs₁ S.zf2) hp1 S.sep1_2) fun x2 p2 tk2 hx2 sn2 hp2 => wpAny_pure ?_)
  replace hp2 : Heap.SameBut i2 p1 p2 := hp2
  refine wpAny_pure (wpAny_pure ?_)
  show wpAny _ _ (newTuple [x1, x2] >>= _) _ _ ⟨p2, g, d, tk2, os⟩
  refine wpAny_bind (wpAny_newTuple ?_)
  have hsz : p2.objs.size = hp.objs.size := by rw [hp2.1, hp1.1, hs₁.1]
  have hz₃ : IsZipHeld p2 z TI TO T true := hp2.extBut _ _ S.zi2 (hp1.extBut _ _ S.zi1 hz₁)
  have hk : ∀ c o, c ≠ z → c ≠ i1 → c ≠ i2 → hp.get? c = some o → p2.get? c = some o := fun c o c1 c2 c3 e => hp2.extBut _ _ c3 (hp1.extBut _ _ c2 (hs₁.extBut _ _ c1 e))
  have hj1 : St1 (i + 1) p2 := D1.over sn1 hp2 S.sep2_1
  refine wpAny_pure ⟨_, rfl, ?_⟩
  show Q (.ref p2.objs.size) _
  have hpp : IsTupOf2 (p2.push { cls := .type "tuple", data := .seq #[x1, x2] }) p2.objs.size x1 x2 := Heap.get?_push_size _ rfl
  have hz4 : (p2.push { cls := .type "tuple", data := .seq #[x1, x2] }).objs.size = p2.objs.size + 1 := Heap.size_push ..
  rw [hsz] at hpp hz4 ⊢
  exact hQ x1 x2 _ tk2 hx1 hx2 (Heap.get?_push_of_some _ hz₃) (D1.frame _ _ _ hj1 fun b _ o e => Heap.get?_push_of_some _ e) (D2.frame _ _ _ sn2 fun b _ o e => Heap.get?_push_of_some _ e) hpp hz4 fun c o c1 c2 c3 e => Heap.get?_push_of_some _ (hk c o c1 c2 c3 e)
theorem zipD2_next_end_held {Q : Fin → Shared → Prop} (S : ZipSep2 z TI TO i1 i2 fp1 fp2) (D1 : Draws prog w A i1 fp1 n1 P1 St1) (D2 : Draws prog w A i2 fp2 n2 P2 St2)
    (hz : IsZipHeld s.heap z TI TO T f) (hT : s.heap.get? T = some oT) (hTI : IsTupOf2 s.heap TI (.ref i1) (.ref i2)) (st1 : St1 i s.heap) (st2 : St2 i s.heap) (hle1 : i ≤ n1) (hle2 : i ≤ n2) (hend : i = n1 ∨ i = n2)
    (hE : ∀ h' tk e, (∀ c o, c ≠ z → c ≠ i1 → c ≠ i2 → s.heap.get? c = some o → h'.get? c = some o) → (∃ o, h'.get? e = some o ∧ o.cls = .type "StopIteration") → E (.ref e) { s with heap := h', toks := tk }) :
    wpAny (model prog w) A (Builtin.«zip.__next__» ⟨[.ref z], []⟩) Q E s := by
  obtain ⟨hp, g, d, tk0, os⟩ := s
  show wpAny _ _ (field (.ref z) 2 >>= _) _ _ _
  refine wpAny_bind (wpAny_field hz rfl (x := .bool false) rfl ?_)
  show wpAny _ _ (field (.ref z) 3 >>= _) _ _ _
  refine wpAny_bind (wpAny_field hz rfl (x := .ref TI) rfl ?_)
  refine wpAny_bind (wpAny_seqItems hTI rfl ?_)
  show wpAny _ _ (Builtin.SmallTypes.ownedTupleIsFree (.ref z) >>= _) _ _ _
  refine wpAny_bind (wpAny_tupleHeld_zip hz hT fun h₁ hz₁ hs₁ => ?_)
  replace hs₁ : Heap.SameBut z hp h₁ := hs₁
  simp only [Bool.false_eq_true, if_false]
  refine wpAny_bind ?_
  rw [← Array.forIn_toList]
  simp only [List.forIn_cons, List.forIn_nil]
  refine wpAny_bind (wpAny_bind (wpAny_holding ?_))
  show wpAny _ _ (Builtin.SmallTypes.nextOf (.ref i1) >>= _) _ _ ⟨h₁, g, d, tk0, os⟩
  by_cases hlt : i < n1
  · refine wpAny_bind (D1.item i _ _ _ hlt (D1.over st1 hs₁ S.zf1) fun x1 p1 tk1 hx1 sn1 hp1 => wpAny_pure ?_)
    replace hp1 : Heap.SameBut i1 h₁ p1 := hp1
    refine wpAny_pure ?_
    refine wpAny_bind (wpAny_bind (wpAny_holding ?_))
    show wpAny _ _ (Builtin.SmallTypes.nextOf (.ref i2) >>= _) _ _ ⟨p1, g, d, tk1, os⟩
    have hi2 : i = n2 := by omega
    refine wpAny_bind (D2.done ⟨p1, g, d, tk1, os⟩ _ _ (by rw [← hi2]; exact D2.over (D2.over st2 hs₁ S.zf2) hp1 S.sep1_2) fun q e hq he => ?_)
    replace hq : Heap.ExtBut i2 p1 q := hq
    exact hE q tk1 e (fun c o cz c1 c2 x => hq _ _ c2 (hp1.extBut _ _ c1 (hs₁.extBut _ _ cz x))) he
  · have hi1 : i = n1 := by omega
    refine wpAny_bind (D1.done ⟨h₁, g, d, tk0, os⟩ _ _ (by rw [← hi1]; exact D1.over st1 hs₁ S.zf1) fun q e hq he => ?_)
    replace hq : Heap.ExtBut i1 h₁ q := hq
    exact hE q tk0 e (fun c o cz c1 c2 x => hq _ _ c1 (hs₁.extBut _ _ cz x)) he
theorem wpAny_pyNext_zipD2_item_held {Q : Option Value → Shared → Prop} (S : ZipSep2 z TI TO i1 i2 fp1 fp2) (D1 : Draws prog w A.in1 i1 fp1 n1 P1 St1) (D2 : Draws prog w A.in1 i2 fp2 n2 P2 St2)
    (hz : IsZipHeld s.heap z TI TO T f) (hT : s.heap.get? T = some oT) (hTI : IsTupOf2 s.heap TI (.ref i1) (.ref i2)) (st1 : St1 i s.heap) (st2 : St2 i s.heap) (hlt1 : i < n1) (hlt2 : i < n2)
    (hQ : ∀ x1 x2 h' tk, P1 i x1 → P2 i x2 → IsZipHeld h' z TI TO T true → St1 (i + 1) h' → St2 (i + 1) h' → IsTupOf2 h' s.heap.objs.size x1 x2 → h'.objs.size = s.heap.objs.size + 1 →
      (∀ c o, c ≠ z → c ≠ i1 → c ≠ i2 → s.heap.get? c = some o → h'.get? c = some o) → Q (some (.ref s.heap.objs.size)) { s with heap := h', toks := tk }) :
    wpAny (model prog w) A (pyNext (.ref z)) Q E s := by
  have hTy : s.TypeIs (.ref z) "zip" := ⟨_, hz, rfl⟩
  unfold pyNext
  exact wpAny_bind (wpAny_attempt (wpAny_callSpecial?_slot (name := Str.ofString "__next__") hTy F.slot_zip_next
    (wpAny_call_entry F.slot_zip_next hTy F.entry_zip_next
      (zipD2_next_item_held S D1 D2 hz hT hTI st1 st2 hlt1 hlt2 fun x1 x2 h' tk y1 y2 b1 d1 d2 b5 b6 b7 => wpAny_pure (hQ x1 x2 h' tk y1 y2 b1 d1 d2 b5 b6 b7)) (F.args_zip_next_1 _))))
theorem wpAny_pyNext_zipD2_end_held {Q : Option Value → Shared → Prop} (S : ZipSep2 z TI TO i1 i2 fp1 fp2) (D1 : Draws prog w A.in1 i1 fp1 n1 P1 St1) (D2 : Draws prog w A.in1 i2 fp2 n2 P2 St2)
    (hz : IsZipHeld s.heap z TI TO T f) (hT : s.heap.get? T = some oT) (hTI : IsTupOf2 s.heap TI (.ref i1) (.ref i2)) (st1 : St1 i s.heap) (st2 : St2 i s.heap) (hle1 : i ≤ n1) (hle2 : i ≤ n2) (hend : i = n1 ∨ i = n2)
    (hQ : ∀ h' tk, (∀ c o, c ≠ z → c ≠ i1 → c ≠ i2 → s.heap.get? c = some o → h'.get? c = some o) → Q none { s with heap := h', toks := tk }) : wpAny (model prog w) A (pyNext (.ref z)) Q E s := by
  have hTy : s.TypeIs (.ref z) "zip" := ⟨_, hz, rfl⟩
  unfold pyNext
  refine wpAny_bind (wpAny_attempt (wpAny_callSpecial?_slot (name := Str.ofString "__next__") hTy F.slot_zip_next
    (wpAny_call_entry F.slot_zip_next hTy F.entry_zip_next (zipD2_next_end_held S D1 D2 hz hT hTI st1 st2 hle1 hle2 hend fun h' tk e hk he => ?_) (F.args_zip_next_1 _))))
  obtain ⟨o, ho, hc⟩ := he
  refine wpAny_bind (wpAny_isInstance (T := "StopIteration") (b := true) ⟨o, ho, hc⟩ isSubtype_stop ?_)
  exact wpAny_pure (hQ _ _ hk)
theorem zip_no_len : typeLookup (.type "zip") "__len__" = pure none := am_miss_of_fast (by decide +kernel)
theorem zip_no_hint : typeLookup (.type "zip") "__length_hint__" = pure none := am_miss_of_fast (by decide +kernel)
theorem zip_hint {r : Addr} {Q : Bool → Shared → Prop} (hT : s.TypeIs (.ref r) "zip") (h : Q true s) : wpAny (model prog w) A (Builtin.List.listLengthHint (.ref r)) Q E s := by
  unfold Builtin.List.listLengthHint
  refine wpAny_bind (wpAny_specialOf hT zip_no_len ?_)
  show wpAny _ A (specialOf (Value.ref r) (Str.ofString "__length_hint__") >>= _) _ _ _
  refine wpAny_bind (wpAny_specialOf hT zip_no_hint ?_)
  exact wpAny_pure h
end
end PySem
namespace D2
open PySem PySem.Spec PyProof.Rows L2
open PySem (IsZip Draws ZipSep2 IsTupOf2 ZipApart)
/-! ### list(zip(xs, ys)) -/
/-- the zip's own objects: nothing of it is out, or a tuple that stands in H is -/
def ZSt (H : Hp) (p q : Sd) (z TI TO i1 i2 : Addr) (i : Nat) (h : Heap) : Prop :=
  (IsZip h z TI TO .none ∨ ∃ T f xs, IsZipHeld h z TI TO T f ∧ H T = some (.tup xs)) ∧ (∃ x y, IsTupOf2 h TO x y) ∧ IsTupOf2 h TI (.ref i1) (.ref i2) ∧ ItAt h i1 p i ∧ ItAt h i2 q i
section
variable {X : Cx} {pins : List (Addr × Obj)} {σ : L2.St} {A1 : Around}
theorem zl_loop {p q : Sd} {z TI TO i1 i2 L : Addr} {xs ys : List V} {Rs : Result → Shared → Prop} {H0 : Hp} (D : ZipApart z TI TO i1 i2 p.a q.a) (hh : A1.in1.in1.handled = none) (hn : min xs.length ys.length ≤ sizeLine - 1) (hL : H0 L = none)
    (hx0 : SqS X.K H0 p xs) (hy0 : SqS X.K H0 q ys)
    (hdone : ∀ Hf (Ts : List Addr) s, Inv X pins σ Hf s → Same H0 Hf → Hf L = some (.lst (Ts.map .ref)) → Ts.length = min xs.length ys.length →
      (∀ (i : Nat) T, Ts[i]? = some T → ∃ x y, xs[i]? = some x ∧ ys[i]? = some y ∧ H0 T = none ∧ Hf T = some (.tup [x, y])) → Rs (.ok (.ret .none)) s) :
    ∀ (m i : Nat) (Ts : List Addr) (H : Hp) (s : Shared), m + i = min xs.length ys.length → Inv X pins σ H s → (∀ c ∈ [z, TI, TO, i1, i2], FpOk X pins H c) → ZSt H p q z TI TO i1 i2 i s.heap → Same H0 H → H L = some (.lst (Ts.map .ref)) → Ts.length = i →
      (∀ (i : Nat) T, Ts[i]? = some T → ∃ x y, xs[i]? = some x ∧ ys[i]? = some y ∧ H0 T = none ∧ H T = some (.tup [x, y])) →
      codeAny (model X.prog X.w) A1 (.builtin "list.extend.loop" ⟨[.ref L, .ref z, .none], []⟩) Rs s := by
  intro m
  induction m with
  | zero =>
    intro i Ts H s hm I hf st sm hl hT hTs
    refine codeAny_builtin PySem.F.entry_extend_loop ?_
    rw [Around.under_plainId PySem.F.plain_extend_loop _]
    show wpAny _ A1.in1 (pyNext (.ref z) >>= _) _ _ s
    obtain ⟨hzz, ⟨x0, y0, hTO⟩, hTI, h1, h2⟩ := st
    have hqx : SqS X.K H p xs := by
      cases p with
      | l a => exact Same.seq sm hx0
      | t a => exact same_sq sm hx0
    have hqy : SqS X.K H q ys := by
      cases q with
      | l a => exact Same.seq sm hy0
      | t a => exact same_sq sm hy0
    obtain ⟨its, rv, p1, _⟩ := Inv.side I hqx
    obtain ⟨its2, rv2, p2, _⟩ := Inv.side I hqy
    have l1 := rv.length
    have l2 := rv2.length
    have fin : ∀ h' tk, (∀ c o, c ≠ z → c ≠ TO → c ≠ i1 → c ≠ i2 → s.heap.get? c = some o → h'.get? c = some o) → Rs (.ok (.ret .none)) { s with heap := h', toks := tk } := fun h' tk hk => by
      refine hdone H Ts _ ?_ sm hl (by omega) hTs
      exact I.turnedL (t' := tk) (ch := [z, TI, TO, i1, i2]) (fun c o hb r => hk c o (fun r' => hb (by simp [r'])) (fun r' => hb (by simp [r'])) (fun r' => hb (by simp [r'])) (fun r' => hb (by simp [r'])) r) hf
    rcases hzz with hz | ⟨T, f, ts, hz, hHT⟩
    · refine wpAny_bind (PySem.wpAny_pyNext_zipD2_end (sep_of D) (Draws.side (A := A1.in1.in1) hh i1 p D.l1i1 its.toArray) (Draws.side (A := A1.in1.in1) hh i2 q D.l2i2 its2.toArray) hz hTI hTO ⟨h1, p1⟩ ⟨h2, p2⟩ (by rw [List.size_toArray]; omega) (by rw [List.size_toArray]; omega) (by rw [List.size_toArray, List.size_toArray]; omega) fun h' tk hk => ?_)
      exact wpAny_pure (fin h' tk hk)
    · obtain ⟨_, _, _, ⟨oT, hoT, _⟩⟩ := I.hok _ _ hHT
      refine wpAny_bind (PySem.wpAny_pyNext_zipD2_end_held (sep_of D) (Draws.side (A := A1.in1.in1) hh i1 p D.l1i1 its.toArray) (Draws.side (A := A1.in1.in1) hh i2 q D.l2i2 its2.toArray) hz hoT hTI ⟨h1, p1⟩ ⟨h2, p2⟩ (by rw [List.size_toArray]; omega) (by rw [List.size_toArray]; omega) (by rw [List.size_toArray, List.size_toArray]; omega) fun h' tk hk => ?_)
      exact wpAny_pure (fin h' tk fun c o a _ b d e => hk c o a b d e)
  | succ m ih =>
    intro i Ts H s hm I hf st sm hl hT hTs
    refine codeAny_builtin PySem.F.entry_extend_loop ?_
    rw [Around.under_plainId PySem.F.plain_extend_loop _]
    show wpAny _ A1.in1 (pyNext (.ref z) >>= _) _ _ s
    obtain ⟨hzz, ⟨x0, y0, hTO⟩, hTI, h1, h2⟩ := st
    have hqx : SqS X.K H p xs := by
      cases p with
      | l a => exact Same.seq sm hx0
      | t a => exact same_sq sm hx0
    have hqy : SqS X.K H q ys := by
      cases q with
      | l a => exact Same.seq sm hy0
      | t a => exact same_sq sm hy0
    obtain ⟨its, rv, p1, _⟩ := Inv.side I hqx
    obtain ⟨its2, rv2, p2, _⟩ := Inv.side I hqy
    have l1 := rv.length
    have l2 := rv2.length
    obtain ⟨x, hx⟩ := lt_get (xs := xs) (i := i) (by omega)
    obtain ⟨y, hy⟩ := lt_get (xs := ys) (i := i) (by omega)
    obtain ⟨u, hu, ru⟩ := rv.get hx
    obtain ⟨u2, hu2, ru2⟩ := rv2.get hy
    have hTIl : TI < s.heap.objs.size := Heap.lt_size hTI
    have hi1l : i1 < s.heap.objs.size := by obtain ⟨_, e1, _⟩ := h1.obj; exact Heap.lt_size e1
    have hi2l : i2 < s.heap.objs.size := by obtain ⟨_, e2, _⟩ := h2.obj; exact Heap.lt_size e2
    have hzl : z < s.heap.objs.size := by
      rcases hzz with hz | ⟨T, f, ts, hz, _⟩
      · exact Heap.lt_size hz
      · exact Heap.lt_size hz
    have hLs : s.heap.objs.size ≠ L := fun e => by
      have := I.hok.fresh (Nat.le_refl s.heap.objs.size)
      rw [e, hl] at this; cases this
    -- behind the item
    have next : ∀ h' tk f', (∀ c o, c ∉ [z, TI, TO, i1, i2] → s.heap.get? c = some o → h'.get? c = some o) → (∃ T' ts, (upd H s.heap.objs.size (.tup [x, y])) T' = some (.tup ts) ∧ IsZipHeld h' z TI TO T' f') → IsTupOf2 h' TI (.ref i1) (.ref i2) → ItAt h' i1 p (i + 1) → ItAt h' i2 q (i + 1) → (∃ x y, IsTupOf2 h' TO x y) →
        IsTupOf2 h' s.heap.objs.size u u2 → wpAny (model X.prog X.w) A1.in1 (updateSeq L (·.push (.ref s.heap.objs.size)) >>= fun _ => again (.builtin "list.extend.loop" ⟨[.ref L, .ref z, .none], []⟩))
          (fun fin s' => match fin with | .done f => Rs (.ok f) s' | .again c' => c'.quiet = true ∧ codeAny (model X.prog X.w) A1 c' Rs s') (fun e s' => Rs (.error e) s') { s with heap := h', toks := tk } := by
      intro h' tk f' hk ⟨T', ts, hT', hz'⟩ hTI' h1' h2' ⟨x5, y5, hTO'⟩ hnew
      have new : ObjOk X.prog X.w (upd H s.heap.objs.size (.tup [x, y])) h' s.heap.objs.size (.tup [x, y]) :=
        ⟨by show 2 ≤ sizeLine; decide, [u, u2], .cons ru (.cons ru2 .nil), ⟨_, hnew, rfl, _, rfl⟩⟩
      have I1 : Inv X pins σ (upd H s.heap.objs.size (.tup [x, y])) { s with heap := h', toks := tk } := I.turnedNew (t' := tk) (ch := [z, TI, TO, i1, i2]) (fun c o hb r => hk c o hb r) hf (Nat.le_refl _) new
      have hl1 : upd H s.heap.objs.size (.tup [x, y]) L = some (.lst (Ts.map .ref)) := by rw [upd_ne (Ne.symm hLs)]; exact hl
      obtain ⟨zz, its3, k3, r3, hl3, e3⟩ := I1.lstM hl1
      have lts : its3.length = i := by rw [← hl3, List.length_map, hT]
      refine wpAny_bind (wpAny_updateSeq e3 rfl (wpAny_pure ⟨plainId_quiet PySem.F.plain_extend_loop _, ?_⟩) (by rw [List.size_toArray]; omega) (by show (its3.toArray.push _).size ≤ sizeLine + 1; rw [Array.size_push, List.size_toArray]; omega))
      have I2 := I1.lset (f := (·.push (.ref s.heap.objs.size))) (its' := its3 ++ [.ref s.heap.objs.size]) (ys := Ts.map V.ref ++ [.ref s.heap.objs.size]) (t' := tk) hl1 e3 (by simp) (r3.append (.cons (show RelV (V.ref s.heap.objs.size) (Value.ref s.heap.objs.size) from rfl) .nil)) (by rw [List.length_append, List.length_singleton, hl3, lts]; omega)
      have hH2 : ∀ a o, a ≠ L → H a = some o → upd (upd H s.heap.objs.size (.tup [x, y])) L (.lst (Ts.map V.ref ++ [.ref s.heap.objs.size])) a = some o := fun a o hne e => by
        rw [upd_ne hne, upd_ne (fun z => by rw [z, I.hok.fresh (Nat.le_refl _)] at e; cases e)]; exact e
      refine ih (i + 1) (Ts ++ [s.heap.objs.size]) _ _ (by omega) I2 (fun c hc => ?_) ⟨.inr ⟨T', f', ts, ?_, ?_⟩, ⟨x5, y5, ?_⟩, ?_, ?_, ?_⟩ (fun a o e => hH2 a o (fun z => by rw [z, hL] at e; cases e) (sm a o e)) (by rw [upd_same, List.map_append]; rfl) (by rw [List.length_append, hT]; rfl) fun j T hj => ?_
      · obtain ⟨f0, f1, f2, f3, f4, f5⟩ := hf c hc
        refine ⟨?_, f1, f2, f3, f4, f5⟩
        have hcl : c < s.heap.objs.size := by
          have e' : c = z ∨ c = TI ∨ c = TO ∨ c = i1 ∨ c = i2 := by simpa using hc
          rcases e' with r | r | r | r | r
          · rw [r]; exact hzl
          · rw [r]; exact hTIl
          · rw [r]; exact Heap.lt_size hTO
          · rw [r]; exact hi1l
          · rw [r]; exact hi2l
        rw [upd_ne (fun z => by rw [z, hl] at f0; cases f0), upd_ne (Nat.ne_of_lt hcl)]
        exact f0
      · exact (Heap.get?_update_other _ _ (fun z => by have := (hf L (by simp [z])).1; rw [hl] at this; cases this)).trans hz'
      · rw [upd_ne (fun z => by rw [z, upd_ne (Ne.symm hLs), hl] at hT'; cases hT')]; exact hT'
      · exact (Heap.get?_update_other _ _ (fun z => by have := (hf L (by simp [z])).1; rw [hl] at this; cases this)).trans hTO'
      · exact (Heap.get?_update_other _ _ (fun z => by have := (hf L (by simp [z])).1; rw [hl] at this; cases this)).trans hTI'
      · exact h1'.at fun o r => (Heap.get?_update_other _ _ (fun z => by have := (hf L (by simp [z])).1; rw [hl] at this; cases this)).trans r
      · exact h2'.at fun o r => (Heap.get?_update_other _ _ (fun z => by have := (hf L (by simp [z])).1; rw [hl] at this; cases this)).trans r
      · by_cases hji : j < Ts.length
        · rw [List.getElem?_append_left hji] at hj
          obtain ⟨x', y', e1, e2, e3', e4⟩ := hTs j T hj
          exact ⟨x', y', e1, e2, e3', hH2 _ _ (fun z => by rw [z, hl] at e4; cases e4) e4⟩
        · rw [List.getElem?_append_right (Nat.le_of_not_lt hji)] at hj
          have hj0 : j = i := by
            have := (List.getElem?_eq_some_iff.mp hj).1
            simp at this; omega
          subst hj0
          rw [hT, Nat.sub_self] at hj
          have : T = s.heap.objs.size := by simpa using hj.symm
          subst this
          exact ⟨x, y, hx, hy, Same.back sm (I.hok.fresh (Nat.le_refl _)), by rw [upd_ne hLs, upd_same]⟩
    have n1 : i < its.toArray.size := by rw [List.size_toArray]; omega
    have n2 : i < its2.toArray.size := by rw [List.size_toArray]; omega
    rcases hzz with hz | ⟨T, f, ts, hz, hHT⟩
    · refine wpAny_bind (PySem.wpAny_pyNext_zipD2_item (sep_of D) (Draws.side (A := A1.in1.in1) hh i1 p D.l1i1 its.toArray) (Draws.side (A := A1.in1.in1) hh i2 q D.l2i2 its2.toArray) hz hTI hTO ⟨h1, p1⟩ ⟨h2, p2⟩ n1 n2 fun v1 v2 h' tk e1 e2 z' TO' st1' st2' hT' hsz hk => ?_)
      have ev1 : v1 = u := by rw [List.getElem?_toArray, hu] at e1; exact (Option.some.inj e1).symm
      have ev2 : v2 = u2 := by rw [List.getElem?_toArray, hu2] at e2; exact (Option.some.inj e2).symm
      subst ev1 ev2
      exact next h' tk false (fun c o hb r => hk c o (fun r' => hb (by simp [r'])) (fun r' => hb (by simp [r'])) (fun r' => hb (by simp [r'])) (fun r' => hb (by simp [r'])) r) ⟨_, _, upd_same, z'⟩ (hk _ _ D.TIz D.TITO D.TIi1 D.TIi2 hTI) st1'.1 st2'.1 ⟨_, _, TO'⟩ hT'
    · obtain ⟨_, _, _, ⟨oT, hoT, _⟩⟩ := I.hok _ _ hHT
      refine wpAny_bind (PySem.wpAny_pyNext_zipD2_item_held (sep_of D) (Draws.side (A := A1.in1.in1) hh i1 p D.l1i1 its.toArray) (Draws.side (A := A1.in1.in1) hh i2 q D.l2i2 its2.toArray) hz hoT hTI ⟨h1, p1⟩ ⟨h2, p2⟩ n1 n2 fun v1 v2 h' tk e1 e2 z' st1' st2' hT' hsz hk => ?_)
      have ev1 : v1 = u := by rw [List.getElem?_toArray, hu] at e1; exact (Option.some.inj e1).symm
      have ev2 : v2 = u2 := by rw [List.getElem?_toArray, hu2] at e2; exact (Option.some.inj e2).symm
      subst ev1 ev2
      exact next h' tk true (fun c o hb r => hk c o (fun r' => hb (by simp [r'])) (fun r' => hb (by simp [r'])) (fun r' => hb (by simp [r'])) r) ⟨T, ts, by rw [upd_ne (fun z => by rw [z, I.hok.fresh (Nat.le_refl _)] at hHT; cases hHT)]; exact hHT, z'⟩ (hk _ _ D.TIz D.TIi1 D.TIi2 hTI) st1'.1 st2'.1 ⟨_, _, hk _ _ D.TOz D.TOi1 D.TOi2 hTO⟩ hT'
end
end D2

set_option Elab.async false
set_option linter.all false
set_option maxRecDepth 100000
set_option maxHeartbeats 4000000
namespace D2
open PySem PySem.Spec PyProof.Rows L2
open PySem (IsZip Draws ZipSep2 IsTupOf2 ZipApart)
section
variable {X : Cx}
/-- list(zip(..)) -/
def tLZ (K : PySem.W.Frag) (ta : TA) : TE := fun σ H Q => ta σ H fun vs H1 => ∃ (p q : Sd) (xs ys : List V), vs = [.ref p.a, .ref q.a] ∧ SqS K H1 p xs ∧ SqS K H1 q ys ∧ xs.length ≤ LIM ∧
  ∀ L Hf (Ts : List Addr), H1 L = none → Same H1 Hf → Hf L = some (.lst (Ts.map .ref)) → Ts.length = min xs.length ys.length →
    (∀ (i : Nat) T, Ts[i]? = some T → ∃ x y, xs[i]? = some x ∧ ys[i]? = some y ∧ H1 T = none ∧ Hf T = some (.tup [x, y])) → Q (.ref L) Hf
theorem pe_lzip {K : PySem.W.Frag} {e e2 : Expr} {ta : TA} {p p2 pos pos2 : Pos} (hc : X.calm = true) (hg : Gl X "list") (hm : X.mg "list" = none) (hg2 : Gl X "zip") (hm2 : X.mg "zip" = none) (ha : PA X [e, e2] ta) (hK : X.K = K := by rfl)
    (hs : starEach [e, e2] X.env = (false, eval e X.env) :: starEach [e2] X.env := by rfl) (hpl : (backTo pos2 (starEach [e2] X.env)).any (·.1) = false := by rfl)
    (na : starEach [.Call (.Name "zip" p2) [e, e2] [] pos2] X.env = (false, eval (.Call (.Name "zip" p2) [e, e2] [] pos2) X.env) :: starEach [] X.env := by rfl) :
    PE X (.Call (.Name "list" p) [.Call (.Name "zip" p2) [e, e2] [] pos2] [] pos) (tLZ K ta) := by
  subst hK
  refine ⟨fun pins s σ H Q I h => ?_⟩
  have inner : wpAny (model X.prog X.w) X.A (eval (.Call (.Name "zip" p2) [e, e2] [] pos2) X.env) (fun v s2 => ∃ (p q : Sd) (xs ys : List V) (z TI TO i1 i2 : Addr) (H1 : Hp), v = .ref z ∧ SqS X.K H1 p xs ∧ SqS X.K H1 q ys ∧ xs.length ≤ LIM ∧ Inv X pins σ H1 s2 ∧
      ZipApart z TI TO i1 i2 p.a q.a ∧ (∀ c ∈ [z, TI, TO, i1, i2], FpOk X pins H1 c ∧ c < s2.heap.objs.size) ∧ IsZip s2.heap z TI TO .none ∧ IsTupOf2 s2.heap TI (.ref i1) (.ref i2) ∧ (∃ x y, IsTupOf2 s2.heap TO x y) ∧ ItAt s2.heap i1 p 0 ∧ ItAt s2.heap i2 q 0 ∧
      ∀ L Hf (Ts : List Addr), H1 L = none → Same H1 Hf → Hf L = some (.lst (Ts.map .ref)) → Ts.length = min xs.length ys.length →
        (∀ (i : Nat) T, Ts[i]? = some T → ∃ x y, xs[i]? = some x ∧ ys[i]? = some y ∧ H1 T = none ∧ Hf T = some (.tup [x, y])) → Q (.ref L) Hf) X.xe s := by
    refine PyProof.Rows.Call_ (ld_blt I hg2 hm2 PyProof.Rows.boot_zip (PyProof.Rows.callWith_type1 (thn (ha.run pos2 pins s σ H _ I h) fun us s1 ⟨vs, H1, I1, r1, q1⟩ => ?_) hs hpl))
    obtain ⟨p, q, xs, ys, ex, hqx, hqy, hlim, q1⟩ := q1
    subst ex
    cases r1 with
    | cons r rr =>
      cases rr with
      | cons r' rr =>
        cases rr
        cases r
        cases r'
        have five : ∀ c, c ∈ [s1.heap.objs.size + 4, s1.heap.objs.size + 2, s1.heap.objs.size + 3, s1.heap.objs.size, s1.heap.objs.size + 1] → s1.heap.objs.size ≤ c ∧ c < s1.heap.objs.size + 5 := fun c hcm => by
          have e' : c = s1.heap.objs.size + 4 ∨ c = s1.heap.objs.size + 2 ∨ c = s1.heap.objs.size + 3 ∨ c = s1.heap.objs.size ∨ c = s1.heap.objs.size + 1 := by simpa using hcm
          omega
        obtain ⟨its, rv, p1, _⟩ := Inv.side I1 hqx
        obtain ⟨its2, rv2, p2, _⟩ := Inv.side I1 hqy
        refine PySem.zip_begins2 (Begins.side p its.toArray) (Begins.side q its2.toArray) p1 p2 fun h' hz hTI hTO h1 h2 hsz hk => ?_
        have I2 : Inv X pins σ H1 { s1 with heap := h' } := I1.kept (t' := s1.toks) hk
        refine ⟨p, q, xs, ys, s1.heap.objs.size + 4, _, _, _, _, H1, rfl, hqx, hqy, hlim, I2, PySem.W.ktu_apart s1.heap.objs.size p.a q.a p1.lt p2.lt, fun c hcm => ⟨?_, ?_⟩, hz, hTI, ⟨_, _, hTO⟩, ItAt.zero h1, ItAt.zero h2, q1⟩
        · exact I1.fpOk (five c hcm).1 (I1.hok.fresh (five c hcm).1)
        · show c < h'.objs.size
          rw [hsz]; exact (five c hcm).2
  refine PyProof.Rows.Call_ (ld_blt I hg hm PyProof.Rows.boot_list (PyProof.Rows.callWith_type1 (args_cons (thn inner fun v s1 hv => args_nil ?_) na) na))
  obtain ⟨p, q, xs, ys, z, TI, TO, i1, i2, H1, rfl, hqx, hqy, hlim, I1, D, five, hz, hTI, ⟨x0, y0, hTO⟩, h1, h2, q1⟩ := hv
  refine callType_codes (Q₁ := fun obj s₁ => obj = .ref s1.heap.objs.size ∧ s₁ = { s1 with heap := s1.heap.push { cls := .type "list", data := .seq #[] } }) PySem.F.called_list (PySem.F.typeCall_list_1 _) PySem.F.entry_list_init
    (code_list_new _ ⟨rfl, rfl⟩) fun obj s₁ h₁ => ?_
  obtain ⟨rfl, rfl⟩ := h₁
  have hS : (s1.heap.push { cls := .type "list", data := .seq #[] }).get? s1.heap.objs.size = some { cls := .type "list", data := .seq #[] } := Heap.get?_push_size _ rfl
  refine ⟨⟨_, hS, rfl⟩, PySem.F.args_list_init_2 _ _, ?_⟩
  generalize eL : s1.heap.objs.size = L at hS ⊢
  have fr : H1 L = none := by rw [← eL]; exact I1.hok.fresh (Nat.le_refl _)
  have I2 : Inv X pins σ (upd H1 L (.lst [])) { s1 with heap := s1.heap.push { cls := .type "list", data := .seq #[] } } := by rw [← eL]; exact I1.lnew (its := []) (t' := s1.toks) .nil (Nat.zero_le _)
  show wpAny _ _ (do let old ← Builtin.List.listItems (.ref L); Builtin.List.listUpdate (.ref L) (fun _ => #[]); letGo old.toList.reverse; Builtin.List.listExtendWith (.ref L) (.ref z) .none) _ _ _
  refine wpAny_bind ?_
  unfold Builtin.List.listItems
  refine wpAny_bind (wpAny_seqItems hS rfl (wpAny_pure ?_))
  show wpAny _ _ (updateSeq L (fun _ => #[]) >>= fun _ => letGo (#[] : Array Value).toList.reverse >>= fun _ => Builtin.List.listExtendWith (.ref L) (.ref z) .none) _ _ _
  refine wpAny_bind (wpAny_updateSeq hS rfl ?_)
  have I3 := I2.lset (f := fun _ => #[]) (its := []) (its' := []) (ys := []) (t' := s1.toks) upd_same hS rfl .nil (Nat.zero_le _)
  rw [upd_upd] at I3
  refine wpAny_bind (wpAny_letGo ?_)
  have hS3 := Heap.get?_update_self (Obj.mapSeq (fun _ => (#[] : Array Value))) hS rfl
  have hne : ∀ c ∈ [z, TI, TO, i1, i2], c ≠ L := fun c hc e => by have := (five c hc).2; rw [e, ← eL] at this; exact Nat.lt_irrefl _ this
  have keep3 : ∀ c o, c ≠ L → s1.heap.get? c = some o → ((s1.heap.push { cls := .type "list", data := .seq #[] }).update L (Obj.mapSeq (fun _ => (#[] : Array Value)))).get? c = some o := fun c o hb e =>
    (Heap.get?_update_other _ _ (Ne.symm hb)).trans (Heap.get?_push_of_some _ e)
  unfold Builtin.List.listExtendWith
  have hT3 : Shared.TypeIs { s1 with heap := (s1.heap.push { cls := .type "list", data := .seq #[] }).update L (Obj.mapSeq (fun _ => (#[] : Array Value))) } (.ref z) "zip" := ⟨_, keep3 z _ (hne z (by simp)) hz, rfl⟩
  refine wpAny_bind (wpAny_typeOf (T := "zip") hT3 ?_)
  have e1 : Builtin.List.listSameRef (.ref L) (.ref z) = false := by simp [Builtin.List.listSameRef, Ne.symm (hne z (by simp))]
  have e2 : (Value.type "zip" == Value.type "list") = false := by decide
  have e3 : (Value.type "zip" == Value.type "tuple") = false := by decide
  simp only [e1, e2, e3, Bool.or_false, Bool.false_eq_true, if_false]
  refine wpAny_bind (PySem.wpAny_pyIter_zip (keep3 z _ (hne z (by simp)) hz) ?_)
  refine wpAny_bind (wpAny_holding (PySem.zip_hint hT3 ?_))
  simp only [Bool.true_or, if_true]
  refine wpAny_bind (wpAny_rule ?_)
  refine wpAny_bind ?_
  show wpAny _ _ (updateSeq L (·.push .none) >>= fun _ => updateSeq L (·.pop)) _ _ _
  refine wpAny_bind (wpAny_updateSeq hS3 rfl ?_)
  have hS4 := Heap.get?_update_self (Obj.mapSeq (·.push Value.none)) hS3 rfl
  refine wpAny_updateSeq (hz := by seq_fits) hS4 rfl ?_
  have hS5 := Heap.get?_update_self (Obj.mapSeq (·.pop)) hS4 rfl
  have I4 := I3.lset (f := (·.push Value.none)) (its := []) (its' := [Value.none]) (ys := [.non]) (t' := s1.toks) upd_same hS3 rfl (.cons rfl .nil) (by rw [List.length_singleton, sizeLine_eq]; decide)
  have I5 := I4.lset (f := (·.pop)) (its := [Value.none]) (its' := []) (ys := []) (t' := s1.toks) upd_same hS4 rfl .nil (Nat.zero_le _)
  rw [upd_upd, upd_upd] at I5
  have keep5 : ∀ c o, c ≠ L → s1.heap.get? c = some o → ((((s1.heap.push { cls := .type "list", data := .seq #[] }).update L (Obj.mapSeq (fun _ => (#[] : Array Value)))).update L (Obj.mapSeq (·.push Value.none))).update L (Obj.mapSeq (·.pop))).get? c = some o := fun c o hb e =>
    (Heap.get?_update_other _ _ (Ne.symm hb)).trans ((Heap.get?_update_other _ _ (Ne.symm hb)).trans (keep3 c o hb e))
  refine wpAny_pure ⟨plainId_quiet PySem.F.plain_extend_loop _, ?_⟩
  refine zl_loop (A1 := X.A.in1) (H0 := H1) (Rs := wants (fun r s₂ => r = .none ∧ EP X pins σ Q (.ref L) s₂) X.xe) D (I.ok.hd hc) ?_ fr hqx hqy (fun Hf Ts s5 I5 sm hl hT hTs => ⟨rfl, .ref L, Hf, I5, rfl, q1 L Hf Ts fr sm hl hT hTs⟩) (min xs.length ys.length) 0 [] _ _ rfl I5 (fun c hc => ?_) ⟨.inl (keep5 z _ (hne z (by simp)) hz), ⟨x0, y0, keep5 TO _ (hne TO (by simp)) hTO⟩, keep5 TI _ (hne TI (by simp)) hTI, h1.at fun o r => keep5 i1 o (hne i1 (by simp)) r, h2.at fun o r => keep5 i2 o (hne i2 (by simp)) r⟩ (fun a o e => by rw [upd_ne (ne_of_none e fr)]; exact e) upd_same rfl (fun i T e => by simp at e)
  · have : LIM ≤ sizeLine - 1 := by decide
    omega
  · obtain ⟨f0, f1, f2, f3, f4, f5⟩ := (five c hc).1
    exact ⟨by rw [upd_ne (hne c hc)]; exact f0, f1, f2, f3, f4, f5⟩
end
theorem ed_lzip {K : PySem.W.Frag} {ρ : Sls K} {ta : TA} {d e : PyData} {b c : Bool} {ds es : List PyData} (h : EDA K ta ρ [d, e]) (h1 : isSeqD d = some (b, ds)) (h2 : isSeqD e = some (c, es)) : ED K (tLZ K ta) ρ (.list (List.zipWith (fun x y => PyData.tuple [x, y]) ds es)) := fun H0 σ G H er s Q q => h H0 σ G H er s _ fun vs G2 H2 g r => by
  obtain ⟨v, vs, rfl, r1, w, ws, rfl, r2, rfl⟩ := r
  obtain ⟨p, xs, rfl, p2, p3, p4⟩ := Rp.side h1 r1
  obtain ⟨p', ys, rfl, p2', p3', p4'⟩ := Rp.side h2 r2
  have l1 := p4.length
  have l2 := p4'.length
  refine ⟨p, p', xs, ys, rfl, p2 H2 g.gh, p2' H2 g.gh, by omega, fun L Hf Ts hL sm hl hT hTs => ?_⟩
  -- all that is new is known
  have gnew : ∀ a, H2 a = none → G2 a = none := fun a e => Same.back g.gh e
  have lim : Ts.length ≤ LIM := by omega
  refine q _ (fun a => if H2 a = none ∧ (a = L ∨ a ∈ Ts) then Hf a else G2 a) Hf ⟨fun a o e => ?_, g.hh.trans sm, fun a o e => ?_, fun a z1 z2 => ?_⟩ ⟨L, Ts.map .ref, rfl, ?_, ?_, ?_⟩
  · have e2 := g.gg a o e
    have e3 := g.gh a o e2
    show (if _ then _ else _) = _
    rw [if_neg (fun z => by rw [z.1] at e3; cases e3)]; exact e2
  · by_cases z : H2 a = none ∧ (a = L ∨ a ∈ Ts)
    · rw [if_pos z] at e; exact e
    · rw [if_neg z] at e; exact sm _ _ (g.gh _ _ e)
  · show (if _ then _ else _) = _
    rw [if_neg (fun z => (z2.up g.hh).ne z.1)]; exact g.sep a z1 z2
  · show (if _ then _ else _) = _
    rw [if_pos ⟨hL, .inl rfl⟩]; exact hl
  · rw [List.length_zipWith]; omega
  · have key : ∀ (Ts : List Addr) (xs ys : List V) (ds es : List PyData) (G3 : Hp), Same G2 G3 → RpA K G2 ds xs → RpA K G2 es ys → Ts.length = min xs.length ys.length → (∀ (i : Nat) T, Ts[i]? = some T → ∃ x y, xs[i]? = some x ∧ ys[i]? = some y ∧ G3 T = some (.tup [x, y])) →
        RpA K G3 (List.zipWith (fun x y => PyData.tuple [x, y]) ds es) (Ts.map V.ref) := by
      intro Ts
      induction Ts with
      | nil =>
        intro xs ys ds es G3 sg ra rb hl _
        have a1 := ra.length
        have a2 := rb.length
        have : (List.zipWith (fun x y => PyData.tuple [x, y]) ds es).length = 0 := by rw [List.length_zipWith]; simp at hl; omega
        rw [List.eq_nil_of_length_eq_zero this]; rfl
      | cons T Ts ih =>
        intro xs ys ds es G3 sg ra rb hl hT
        obtain ⟨x, y, e1, e2, e3⟩ := hT 0 T rfl
        cases ds with
        | nil => cases ra; simp at e1
        | cons d ds =>
          obtain ⟨v, vs, rfl, rv, ra⟩ := ra
          cases es with
          | nil => cases rb; simp at e2
          | cons e es =>
            obtain ⟨w, ws, rfl, rw', rb⟩ := rb
            have ex : v = x := by simpa using e1
            have ey : w = y := by simpa using e2
            subst ex ey
            refine ⟨.ref T, Ts.map V.ref, rfl, ⟨T, [v, w], rfl, e3, by show 2 ≤ LIM; decide, ⟨v, _, rfl, rv.mono sg, w, _, rfl, rw'.mono sg, rfl⟩⟩, ih vs ws ds es G3 sg ra rb (by simp at hl; omega) fun i T' h' => ?_⟩
            obtain ⟨x', y', a1, a2, a3⟩ := hT (i + 1) T' (by simpa using h')
            exact ⟨x', y', by simpa using a1, by simpa using a2, a3⟩
    refine key Ts xs ys ds es _ (fun a o e => ?_) p4 p4' hT fun i T hi => ?_
    · have e3 := g.gh a o e
      show (if _ then _ else _) = _
      rw [if_neg (fun z => by rw [z.1] at e3; cases e3)]; exact e
    · obtain ⟨x, y, a1, a2, a3, a4⟩ := hTs i T hi
      refine ⟨x, y, a1, a2, ?_⟩
      show (if _ then _ else _) = _
      rw [if_pos ⟨a3, .inr (List.mem_of_getElem? hi)⟩]; exact a4
end D2

set_option Elab.async false
set_option linter.all false
set_option maxRecDepth 100000
set_option maxHeartbeats 4000000
namespace L2
open PySem PySem.Spec PyProof.Rows
/-! ### set(xs) of a list of ints, its table walkable -/
section
variable {P : Program} {w : World} {A : Around} {E : Value → Shared → Prop} {s : Shared}
theorem call_set_lstI {l : Addr} {items : Array Value} (ns : List Int) {Q : Value → Shared → Prop} (hh : A.handled = none) (hl : s.heap.IsList l items) (hit : IntsAre items.toList ns) (hb : ns.length + 1 < scanBound)
    (h : ∀ (h' : Heap) (tk c : Nat), SetR w h' s.heap.objs.size (fun j => decide (j ∈ ns)) c → c ≤ ns.length → (∀ b o, s.heap.get? b = some o → h'.get? b = some o) → Q (.ref s.heap.objs.size) { s with heap := h', toks := tk }) :
    wpAny (model P w) A (call (.type "set") [.ref l]) Q E s := by
  have hisz : items.size = ns.length := by
    have q := IntsAre.length hit
    rw [Array.length_toList] at q
    exact q
  generalize eO : ({ cls := .type "set", dict := none, data := .set #[] 0 (.fresh 0 0 (!w.params.followText "set-order")) } : Obj) = o0
  obtain ⟨c, tl, hmro⟩ := F.called_set.mro
  have hmade := F.called_set.made
  have hsub := F.called_set.sub
  refine wpAny_call (codeAny_of_tree ?_)
  show wpAny _ _ (callAny (.type "set") _) _ _ _
  refine wpAny_pure ⟨Code.quiet_builtin _ (by decide +kernel), codeAny_builtin F.entry_type_call ?_⟩
  rw [Around.under_plain (weight_type_call_type "set" [.ref l] []) rfl]
  have h1 := F.called_set.notType
  have h2 := F.called_set.canCreate
  have hct := F.typeCall_set_1 (.ref l)
  repeat (any_goals (first | assumption | wp_step))
  refine codeAny_mono (code_set_led1 (.ref l) (E := E) (Q₁ := fun obj s₁ => obj = .ref s.heap.objs.size ∧ s₁ = { s with heap := s.heap.push o0 }) (by rw [← eO]; exact ⟨rfl, rfl⟩)) fun r s₁ hr => ?_
  cases r with
  | error e => exact hr
  | ok fl =>
    cases fl with
    | ret obj =>
      obtain ⟨rfl, rfl⟩ := hr
      have fr0 : o0.isFreed = false := by rw [← eO]; rfl
      have hS : (s.heap.push o0).get? s.heap.objs.size = some o0 := Heap.get?_push_size _ fr0
      have hT : Shared.TypeIs { s with heap := s.heap.push o0 } (.ref s.heap.objs.size) "set" := ⟨_, hS, by rw [← eO]⟩
      have hli := F.called_set.init.lookup
      have hbi := F.called_set.init.bind (.ref s.heap.objs.size)
      repeat (any_goals (first | assumption | wp_step))
      refine codeAny_mono (codeAny_call_builtin (R := wants (fun r s₂ => r = .none ∧ ∃ h' tk c, s₂ = { s with heap := h', toks := tk } ∧ SetR w h' s.heap.objs.size (fun j => decide (j ∈ ns)) c ∧ c ≤ ns.length ∧
          (∀ b o, s.heap.get? b = some o → h'.get? b = some o)) E) F.called_set.init.plain F.entry_set_init (check_set_init_1 hT ?_)) fun r₂ s₂ hr₂ => ?_
      · obtain ⟨ol, hol, hcl, nl, hdl⟩ := hl
        obtain ⟨ocls, odict, odata, oslots⟩ := ol
        simp only at hcl hdl
        subst hcl; subst hdl
        have hol' : (s.heap.push o0).get? l = some { cls := .type "list", dict := odict, data := .seq items nl, slots := oslots } := Heap.get?_push_of_some _ hol
        have hsls := F.sub_list_set
        have hslf := F.sub_list_frozenset
        have hne : (Value.type "list" == Value.type "dict") = false := by decide
        have hl1 : (s.heap.push o0).IsList l items := ⟨_, hol', rfl, nl, rfl⟩
        unfold Builtin.«set.__init__» noKeywords Builtin.Frozenset.updateFrom
        rw [← eO] at hS hol' hl1 ⊢
        generalize hPI : pyIter = PI
        wp_walk
        subst hPI
        refine wpAny_pyIter_list hl1 ?_
        refine wpAny_bind (wpAny_runValue ?_)
        rw [eO] at hS hol' hl1 ⊢
        have hlS : l < s.heap.objs.size := Heap.lt_size hol
        have hh3 : A.in1.in1.in1.handled = none := by simp [hh]
        have hz1 : (s.heap.push o0).objs.size = s.heap.objs.size + 1 := Heap.size_push ..
        have hneI : l ≠ (s.heap.push o0).objs.size := by rw [hz1]; exact Nat.ne_of_lt (Nat.lt_succ_of_lt hlS)
        have hSf : s.heap.objs.size ∉ [(s.heap.push o0).objs.size, l] := by
          rw [hz1]; simp only [List.mem_cons, List.mem_singleton, List.not_mem_nil, or_false, not_or]
          exact ⟨Nat.ne_of_lt (Nat.lt_succ_self _), Nat.ne_of_gt hlS⟩
        have hval : ∀ (i : Nat) (v : Value), items[i]? = some v → ∃ k t, ns[i]? = some k ∧ v = .int k t := fun i v hv => by
          have hi : i < ns.length := by rw [← hisz]; exact (Array.getElem?_eq_some_iff.mp hv).1
          obtain ⟨t, e⟩ := PyProof.Rows.IntsAre.int_at hit i v (by rw [Array.getElem?_toList]; exact hv)
          refine ⟨ns[i], t, List.getElem?_eq_getElem hi, ?_⟩
          rw [e, List.getD_eq_getElem?_getD, List.getElem?_eq_getElem hi] <;> rfl
        refine set_update_ints ((Walks.list hh3 _ l hneI items).toS) s.heap.objs.size
          hSf ns hisz hb hval (items.size - 0) 0 _ (by omega) (Nat.zero_le _)
          ⟨⟨_, Heap.get?_push_size _ rfl, rfl, rfl⟩, (hl1.push _)⟩ ?hS0 ?hR
        case hS0 =>
          refine ⟨0, Nat.le_refl 0, setR_new_at ?_⟩
          rw [eO]; exact Heap.get?_push_of_some _ hS
        case hR =>
          intro s' c' hm hc' hS'
          obtain ⟨h', g2, d', tk', os'⟩ := s'
          have eg : g2 = s.gens := hm.gens
          have ed : d' = s.drawn := hm.drawn
          have eo : os' = s.os := hm.os
          subst eg; subst ed; subst eo
          show wpAny _ _ _ _ _ _
          refine wpAny_pure ?_
          show wpAny _ _ (ret Value.none) _ _ _
          rw [hisz] at hc'
          refine wpAny_pure ⟨rfl, h', tk', c', rfl, hS', hc', fun b o e => ?_⟩
          have hb0 : b < s.heap.objs.size := Heap.lt_size e
          have hb1 : b ≠ s.heap.objs.size := Nat.ne_of_lt hb0
          have hb2 : b ≠ (s.heap.push o0).objs.size := by rw [hz1]; exact Nat.ne_of_lt (Nat.lt_succ_of_lt hb0)
          exact hm.heap b o (by simp only [List.mem_cons, List.mem_singleton, List.not_mem_nil, or_false, not_or]; exact ⟨hb1, hb2⟩) (Heap.get?_push_of_some _ (Heap.get?_push_of_some _ e))
      · cases r₂ with
        | error e => exact hr₂
        | ok fl₂ =>
          cases fl₂ with
          | ret r =>
            obtain ⟨rfl, h', tk, c', rfl, hS', hc', hk'⟩ := hr₂
            repeat (any_goals (first | assumption | wp_step))
            exact h _ _ _ hS' hc' hk'
          | _ => exact hr₂.elim
    | _ => exact hr.elim
end
end L2
namespace D2
open PySem PySem.Spec PyProof.Rows L2
section
variable {X : Cx}
def rSetI (K : PySem.W.Frag) (w : World) : List V → Hp → VK → Prop := fun xs H Q => ∃ (l : Addr) (ns : List Int), xs = [V.ref l] ∧ SqL K H l (ns.map V.int) ∧ ns.length < 60 ∧
  ∀ a c, H a = none → c ≤ ns.length → Q (.ref a) (upd H a (SetO w a (fun j => decide (j ∈ ns)) c))
theorem k_setI {K : PySem.W.Frag} {w : World} (hc : X.calm = true := by rfl) (hK : X.K = K := by rfl) (hw : X.w = w := by rfl) : CallR X (.type "set") (rSetI K w) := by
  subst hK hw
  intro pins s σ H xs us Q I r h
  obtain ⟨l, ns, rfl, hl, hn, q⟩ := h
  rw [Vals.ref1 r]
  obtain ⟨its, rv, pl, hz⟩ := I.list hl
  refine call_set_lstI (P := X.prog) (w := X.w) ns (I.ok.hd hc) pl.isList (by simpa using rv.ints) (by unfold scanBound; omega) fun h' tk c R hcl k => ?_
  have hn := I.hok.fresh (Nat.le_refl s.heap.objs.size)
  exact ⟨.ref s.heap.objs.size, _, I.laid (t' := tk) k (Nat.le_refl _) (setO_new R), rfl, q _ c hn hcl⟩
theorem k_sortedSet {w : World} (hc : X.calm = true := by rfl) (hw : X.w = w := by rfl) : CallR X (.builtin "sorted") (rSortedSet w) := hw ▸ cr_sortedSet hc
/-- len(set) of tuples -/
def rLenT (P : Program) (w : World) : List V → Hp → VK → Prop := fun xs H Q => ∃ (a : Addr) (L : List (Addr × List Int)), xs = [V.ref a] ∧ H a = some (SetTO P w a L) ∧ ((L.map (·.2)).Nodup → Q (.int L.length) H)
theorem k_lenT {P : Program} {w : World} (hP : X.prog = P := by rfl) (hw : X.w = w := by rfl) : CallR X (.builtin "len") (rLenT P w) := by
  subst hP hw
  intro pins s σ H xs us Q I r h
  obtain ⟨a, L, rfl, ha, q⟩ := h
  rw [Vals.ref1 r]
  obtain ⟨es, ep, t, ⟨o, ho, hex, hd⟩, hrows, htab, hnd, hpl, hled, hroom, hfew⟩ := ((I.hok a _ ha).1 : SetT0 X.prog X.w s.heap a L).ex
  have hes : es.size = L.length := by
    have := congrArg List.length hrows
    rw [Array.length_toList] at this
    rw [this]; unfold rowsOf; simp
  have hf : t.fits es.size = true := by
    have e1 := htab.sz
    rw [List.length_map] at e1
    unfold SetTable.fits SetTable.fill
    rw [htab.dm, Bool.and_eq_true, beq_iff_eq, decide_eq_true_eq]
    show t.place.size = es.size ∧ t.place.size + 0 ≤ t.mask
    omega
  refine call_len_set ho hex hd hf (by omega) ⟨.int L.length, H, I.tok _, ⟨_, by rw [hes]⟩, q hnd⟩
theorem k_setOfT {K : PySem.W.Frag} {P : Program} {w : World} (hu : X.A.units + 64 < cLine) (hc : X.calm = true := by rfl) (hK : X.K = K := by rfl) (hP : X.prog = P := by rfl) (hw : X.w = w := by rfl) : CallR X (.type "set") (rSetOfT K P w) := by
  subst hK hP hw; exact cr_setOfT hc hu
end
theorem sorted_ext : ∀ {a b : List Int}, a.Pairwise (· < ·) → b.Pairwise (· < ·) → (∀ k, k ∈ a ↔ k ∈ b) → a = b
  | [], [], _, _, _ => rfl
  | [], y :: _, _, _, h => absurd ((h y).mpr List.mem_cons_self) (by simp)
  | x :: _, [], _, _, h => absurd ((h x).mp List.mem_cons_self) (by simp)
  | x :: xs, y :: ys, ha, hb, h => by
    have a1 := List.pairwise_cons.mp ha
    have b1 := List.pairwise_cons.mp hb
    have e : x = y := by
      rcases List.mem_cons.mp ((h x).mp List.mem_cons_self) with e | e
      · exact e
      · rcases List.mem_cons.mp ((h y).mpr List.mem_cons_self) with e' | e'
        · exact e'.symm
        · have := b1.1 x e; have := a1.1 y e'; omega
    subst e
    rw [sorted_ext a1.2 b1.2 fun k => ⟨fun hk => ?_, fun hk => ?_⟩]
    · rcases List.mem_cons.mp ((h k).mp (List.mem_cons_of_mem _ hk)) with e | e
      · have := a1.1 k hk; omega
      · exact e
    · rcases List.mem_cons.mp ((h k).mpr (List.mem_cons_of_mem _ hk)) with e | e
      · have := b1.1 k hk; omega
      · exact e
section
variable {K : PySem.W.Frag} {ρ : Sls K} {ta : TE} {P : Program} {w : World}
/-- sorted(set(ints)) -/
theorem ed_sortedSet {ns ms : List Int} (ha : ED K ta ρ (.list (ns.map .int))) (hn : ns.length < 60) (h1 : ms.Pairwise (· < ·)) (h2 : ∀ k, k ∈ ms ↔ k ∈ ns) :
    ED K (tCB (rSortedSet w) (tCons (tCB (rSetI K w) (tCons ta tNil)) tNil)) ρ (.list (ms.map .int)) := fun H0 σ G H er s Q q => ha H0 σ G H er s _ fun v G2 H2 g r => by
  obtain ⟨a, xs, rfl, r2, r3, r4⟩ := r
  have e := r4.ints
  subst e
  refine ⟨a, ns, rfl, SqL.of (g.gh _ _ r2), hn, fun b c hb hc => ?_⟩
  have hG : G2 b = none := Same.back g.gh hb
  refine ⟨b, _, c, rfl, upd_same, by omega, fun ks p hk hm _ hp => ?_⟩
  have e : ks = ms := sorted_ext hk h1 fun k => by rw [hm k, h2 k, decide_eq_true_eq]
  subst e
  have g2 : Grow G H G2 (upd H2 b (SetO w b (fun j => decide (j ∈ ns)) c)) := g.trans (Grow.quiet g.gh (same_upd hb))
  refine q _ _ _ (g2.trans (Grow.new g2.gh hp)) ⟨p, _, rfl, upd_same, ?_, rpA_ints _⟩
  rw [List.length_map]
  have hsub : ks.length ≤ ns.length := by
    have nd : ks.Nodup := hk.imp (fun h => by omega)
    exact nd.length_le_of_subset fun k hk => (h2 k).mp hk
  have : 60 ≤ LIM := by decide
  omega
end
/-! ### how many unlike ones -/
def dedupL {α : Type} [DecidableEq α] : List α → List α
  | [] => []
  | x :: xs => if x ∈ xs then dedupL xs else x :: dedupL xs
section
variable {α : Type} [DecidableEq α]
theorem mem_dedup {k : α} : ∀ {xs : List α}, k ∈ dedupL xs ↔ k ∈ xs
  | [] => Iff.rfl
  | x :: xs => by
    unfold dedupL
    split
    · rename_i h
      rw [mem_dedup, List.mem_cons]
      exact ⟨.inr, fun h' => h'.elim (fun e => e ▸ h) id⟩
    · rw [List.mem_cons, List.mem_cons, mem_dedup]
theorem nodup_dedup : ∀ xs : List α, (dedupL xs).Nodup
  | [] => List.nodup_nil
  | x :: xs => by
    unfold dedupL
    split
    · exact nodup_dedup xs
    · rename_i h
      exact List.nodup_cons.mpr ⟨fun m => h (mem_dedup.mp m), nodup_dedup xs⟩
theorem dedup_le : ∀ xs : List α, (dedupL xs).length ≤ xs.length
  | [] => Nat.le_refl _
  | x :: xs => by
    unfold dedupL
    have := dedup_le xs
    split
    · exact Nat.le_succ_of_le this
    · simpa using this
theorem dedup_len (xs : List α) : (dedupL xs).length = xs.length ↔ xs.Nodup := by
  induction xs with
  | nil => simp [dedupL]
  | cons x xs ih =>
    unfold dedupL
    have := dedup_le xs
    split
    · rename_i h
      exact ⟨fun e => by simp at e; omega, fun nd => absurd h (List.nodup_cons.mp nd).1⟩
    · rename_i h
      rw [List.length_cons, List.length_cons, List.nodup_cons, ← ih]
      exact ⟨fun e => ⟨h, by omega⟩, fun e => by omega⟩
theorem dedup_count {xs L : List α} (nd : L.Nodup) (h : ∀ k, k ∈ L ↔ k ∈ xs) : L.length = (dedupL xs).length :=
  Nat.le_antisymm (nd.length_le_of_subset fun k hk => mem_dedup.mpr ((h k).mp hk)) ((nodup_dedup xs).length_le_of_subset fun k hk => (h k).mpr (mem_dedup.mp hk))
end
def tupI (k : List Int) : PyData := .tuple (k.map .int)
theorem rpA_tups {K : PySem.W.Frag} {G : Hp} : ∀ {ks : List (List Int)} {vs : List V}, RpA K G (ks.map tupI) vs → ∃ ps : List (Addr × List Int), vs = ps.map (fun p => V.ref p.1) ∧ ps.map (·.2) = ks ∧ ∀ p ∈ ps, G p.1 = some (.tup (p.2.map V.int))
  | [], _, h => ⟨[], h, rfl, fun p hp => by cases hp⟩
  | k :: ks, _, h => by
    obtain ⟨v, vs, rfl, ⟨a, xs, rfl, h2, h3, h4⟩, h5⟩ := h
    obtain ⟨ps, rfl, e2, e3⟩ := rpA_tups h5
    refine ⟨(a, k) :: ps, rfl, by simp [e2], fun p hp => ?_⟩
    rcases List.mem_cons.mp hp with rfl | hp
    · have := h4.ints
      subst this
      exact h2
    · exact e3 p hp
section
variable {K : PySem.W.Frag} {ρ : Sls K} {ta : TA} {P : Program} {w : World}
/-- len(set(xs)), xs tuples of ints -/
theorem ed_lenSetT {te : TE} {ks : List (List Int)} (ha : ED K te ρ (.list (ks.map tupI))) (hn : ks.length < 64) :
    ED K (tCB (rLenT P w) (tCons (tCB (rSetOfT K P w) (tCons te tNil)) tNil)) ρ (.int ((dedupL ks).length : Nat)) := fun H0 σ G H er s Q q => ha H0 σ G H er s _ fun v G2 H2 g r => by
  obtain ⟨a, xs, rfl, r2, r3, r4⟩ := r
  obtain ⟨ps, rfl, e2, e3⟩ := rpA_tups r4
  refine ⟨a, ps, rfl, SqL.of (g.gh _ _ r2), fun p hp => same_t g.gh (e3 p hp), by rw [← e2, List.length_map] at hn; exact hn, fun b L hb h1 h2 => ?_⟩
  refine ⟨b, L, rfl, upd_same, fun nd => ?_⟩
  have e : (L.map (·.2)).length = (dedupL ks).length := dedup_count nd fun k => by
    constructor
    · intro hk
      obtain ⟨p, hp, rfl⟩ := List.mem_map.mp hk
      rw [← e2]; exact List.mem_map_of_mem (h1 p hp)
    · intro hk
      rw [← e2] at hk
      obtain ⟨p, hp, rfl⟩ := List.mem_map.mp hk
      exact h2 p hp
  rw [List.length_map] at e
  rw [e]
  exact q _ G2 _ (g.trans (Grow.quiet g.gh (same_upd hb))) rfl
end
end D2

set_option Elab.async false
set_option linter.all false
set_option maxRecDepth 100000
set_option maxHeartbeats 4000000
namespace D2
open PySem PySem.Spec PyProof.Rows L2
/-! ### what data of dicts says of the heap -/
theorem keyD_inj {a b : Key} (h : keyD a = keyD b) : a = b := by
  cases a <;> cases b <;> simp [keyD] at h <;> simp [h]
theorem tkD_inj {a b : List Key} (h : tkD a = tkD b) : a = b :=
  (List.map_inj_right (fun x y h => keyD_inj h)).mp (PyData.tuple.inj h)
section
variable {K : PySem.W.Frag} {G H : Hp} {v : V}
theorem rpK_vals {κ : Type} {g : κ → PyData} : ∀ {kvs : List (κ × PyData)} {us : List V}, RpK K G (kvs.map fun p => (g p.1, p.2)) us ↔ RpA K G (kvs.map (·.2)) us
  | [], _ => Iff.rfl
  | p :: kvs, us => by
    show (∃ v vs, us = v :: vs ∧ Rp K G p.2 v ∧ RpK K G (kvs.map fun p => (g p.1, p.2)) vs) ↔ ∃ v vs, us = v :: vs ∧ Rp K G p.2 v ∧ RpA K G (kvs.map (·.2)) vs
    exact ⟨fun ⟨v, vs, a, b, c⟩ => ⟨v, vs, a, b, rpK_vals.mp c⟩, fun ⟨v, vs, a, b, c⟩ => ⟨v, vs, a, b, rpK_vals.mpr c⟩⟩
theorem fst_map {κ : Type} {g : κ → PyData} (kvs : List (κ × PyData)) : (kvs.map fun p => (g p.1, p.2)).map Prod.fst = (kvs.map (·.1)).map g := by
  rw [List.map_map, List.map_map]; rfl
theorem Rp.dk {kvs : List (Key × PyData)} : Rp K G (dkD kvs) v ↔ ∃ (a : Addr) (o : Obj) (us : List V), v = .ref a ∧ RpA K G (kvs.map (·.2)) us ∧ kvs.length ≤ LIM ∧ G a = some (.frz o (.dK ((kvs.map (·.1)).zip us))) := by
  constructor
  · intro ⟨ws, hk, hd⟩
    obtain ⟨w, us, rfl, rw', hk⟩ := hk
    have hv := rpK_vals.mp hk
    rcases hd with ⟨a, ns, h1, h2, h3⟩ | ⟨a, o, kk, us', h1, h2, h3, h4, h5⟩ | ⟨a, o, kk, us', h1, h2, _⟩ | ⟨x, C, dx, c, fs, us', h1, h2, _⟩
    · cases h3
    · have e1 := (List.cons.inj h2).2
      rw [fst_map] at e1
      have e2 := (List.map_inj_right (fun x y h => keyD_inj h)).mp e1
      have e3 := (List.cons.inj h3).2
      subst e2 e3
      exact ⟨a, o, us, h1, hv, by simpa using h4, h5⟩
    · cases h2
    · cases h2
  · intro ⟨a, o, us, h1, h2, h3, h4⟩
    exact ⟨.non :: us, ⟨.non, us, rfl, rfl, rpK_vals.mpr h2⟩, .inr (.inl ⟨a, o, kvs.map (·.1), us, h1, by rw [List.map_cons, fst_map], rfl, by simpa using h3, h4⟩)⟩
theorem Rp.dt {kvs : List (List Key × PyData)} : Rp K G (dtD kvs) v ↔ ∃ (a : Addr) (o : Obj) (us : List V), v = .ref a ∧ RpA K G (kvs.map (·.2)) us ∧ kvs.length ≤ LIM ∧ G a = some (.frz o (.dT ((kvs.map (·.1)).zip us))) := by
  constructor
  · intro ⟨ws, hk, hd⟩
    obtain ⟨w, us, rfl, rw', hk⟩ := hk
    have hv := rpK_vals.mp hk
    rcases hd with ⟨a, ns, h1, h2, h3⟩ | ⟨a, o, kk, us', h1, h2, _⟩ | ⟨a, o, kk, us', h1, h2, h3, h4, h5⟩ | ⟨x, C, dx, c, fs, us', h1, h2, _⟩
    · cases h3
    · cases h2
    · have e1 := (List.cons.inj h2).2
      rw [fst_map] at e1
      have e2 := (List.map_inj_right (fun x y h => tkD_inj h)).mp e1
      have e3 := (List.cons.inj h3).2
      subst e2 e3
      exact ⟨a, o, us, h1, hv, by simpa using h4, h5⟩
    · cases h2
  · intro ⟨a, o, us, h1, h2, h3, h4⟩
    exact ⟨.non :: us, ⟨.non, us, rfl, rfl, rpK_vals.mpr h2⟩, .inr (.inr (.inl ⟨a, o, kvs.map (·.1), us, h1, by rw [List.map_cons, fst_map], rfl, by simpa using h3, h4⟩))⟩
theorem Rp.ob {c : Str} {fs : List (Str × PyData)} : Rp K G (obD c fs) v ↔ ∃ (x C dx : Addr) (us : List V), v = .ref x ∧ RpA K G (fs.map (·.2)) us ∧ ClsAt K c C ∧ G x = some (.ins C dx ((fs.map (·.1)).zip us)) := by
  constructor
  · intro ⟨ws, hk, hd⟩
    obtain ⟨w, us, rfl, rw', hk⟩ := hk
    have hv := (rpK_vals (g := PyData.str)).mp hk
    rcases hd with ⟨a, ns, h1, h2, h3⟩ | ⟨a, o, kk, us', h1, h2, _⟩ | ⟨a, o, kk, us', h1, h2, _⟩ | ⟨x, C, dx, c', fs', us', h1, h2, h3, h4, h5⟩
    · cases h3
    · cases h2
    · cases h2
    · have e1 := (List.cons.inj h2).2
      rw [fst_map (g := PyData.str)] at e1
      have e2 := (List.map_inj_right (fun x y h => PyData.str.inj h)).mp e1
      have e3 := List.cons.inj h3
      have e4 : w = .str c := rw'
      have e5 : c = c' := V.str.inj (e4.symm.trans e3.1)
      have e6 := e3.2
      subst e2 e5 e6
      exact ⟨x, C, dx, us, h1, hv, h4, h5⟩
  · intro ⟨x, C, dx, us, h1, h2, h3, h4⟩
    exact ⟨.str c :: us, ⟨.str c, us, rfl, rfl, (rpK_vals (g := PyData.str)).mpr h2⟩, .inr (.inr (.inr ⟨x, C, dx, c, fs.map (·.1), us, h1, by rw [List.map_cons, fst_map (g := PyData.str)], rfl, h3, h4⟩))⟩
/-! ### look-ups -/
def findD {κ : Type} [DecidableEq κ] (kvs : List (κ × PyData)) (k : κ) : Option PyData := (kvs.find? fun p => decide (p.1 = k)).map (·.2)
section
variable {κ : Type} [DecidableEq κ]
theorem findD_some {k : κ} {d : PyData} : ∀ {kvs : List (κ × PyData)} {us : List V}, RpA K G (kvs.map (·.2)) us → findD kvs k = some d → ∃ u, valV ((kvs.map (·.1)).zip us) k = some u ∧ Rp K G d u
  | [], _, _, e => by simp [findD] at e
  | p :: kvs, _, ⟨u, us, h1, h2, h3⟩, e => by
    cases h1
    by_cases hp : p.1 = k
    · refine ⟨u, ?_, ?_⟩
      · rw [List.map_cons, List.zip_cons_cons]; exact valV_pos hp
      · have : p.2 = d := by simpa [findD, hp] using e
        rw [← this]; exact h2
    · have e' : findD kvs k = some d := by simpa [findD, hp] using e
      obtain ⟨w, a, b⟩ := findD_some h3 e'
      exact ⟨w, by rw [List.map_cons, List.zip_cons_cons, valV_neg hp]; exact a, b⟩
theorem findD_none {k : κ} : ∀ {kvs : List (κ × PyData)} {us : List V}, RpA K G (kvs.map (·.2)) us → findD kvs k = none → valV ((kvs.map (·.1)).zip us) k = none
  | [], us, h, _ => by cases h; rfl
  | p :: kvs, _, ⟨u, us, h1, h2, h3⟩, e => by
    cases h1
    by_cases hp : p.1 = k
    · simp [findD, hp] at e
    · rw [List.map_cons, List.zip_cons_cons, valV_neg hp]
      exact findD_none h3 (by simpa [findD, hp] using e)
theorem findD_isSome {k : κ} {kvs : List (κ × PyData)} {us : List V} (r : RpA K G (kvs.map (·.2)) us) : (valV ((kvs.map (·.1)).zip us) k).isSome = (findD kvs k).isSome := by
  cases e : findD kvs k with
  | none => rw [findD_none r e]; rfl
  | some d => obtain ⟨u, a, _⟩ := findD_some r e; rw [a]; rfl
end
end
/-- a key of ints and texts as a value -/
theorem rpA_keys {K : PySem.W.Frag} {G : Hp} : ∀ {k : List Key} {vs : List V}, RpA K G (k.map keyD) vs → vs = k.map kV
  | [], _, h => h
  | k :: ks, _, ⟨v, vs, h1, h2, h3⟩ => by
    cases h1
    rw [rpA_keys h3]
    cases k with
    | inl i => cases h2; rfl
    | inr x => cases h2; rfl
theorem Rp.key {K : PySem.W.Frag} {G : Hp} {k : Key} {v : V} (h : Rp K G (keyD k) v) : v = kV k := by
  cases k with
  | inl i => exact h
  | inr x => exact h
section
variable {K : PySem.W.Frag} {ρ : Sls K} {td tk tx : TE} {d x : PyData}
/-- d[k] -/
theorem ed_dgetK {kvs : List (Key × PyData)} {k : Key} (hd : ED K td ρ (dkD kvs)) (hk : ED K tk ρ (keyD k)) (h : findD kvs k = some d) : ED K (tDGet td tk) ρ d := fun H0 σ G H er s Q q =>
  hd H0 σ G H er s _ fun vd G1 H1 g1 r1 => hk H0 σ G1 H1 (er.grow g1) g1.gh _ fun vk G2 H2 g2 r2 => by
    obtain ⟨a, o, us, rfl, ra, hl, hG⟩ := Rp.dk.mp (r1.mono g2.gg)
    obtain ⟨u, e, ru⟩ := findD_some ra h
    rw [r2.key]
    exact ⟨a, u, rfl, .inl ⟨_, k, .inr ⟨o, g2.gh _ _ hG⟩, rfl, e.symm⟩, q u G2 H2 (g1.trans g2) ru⟩
end
end D2

set_option Elab.async false
set_option linter.all false
set_option maxRecDepth 100000
set_option maxHeartbeats 4000000
namespace D2
open PySem PySem.Spec PyProof.Rows L2
section
variable {K : PySem.W.Frag} {ρ : Sls K} {td tk tx te : TE} {d x : PyData}
theorem Rp.tkey {G : Hp} {k : List Key} {v : V} (h : Rp K G (tkD k) v) : ∃ b, v = .ref b ∧ G b = some (.tup (k.map kV)) := by
  obtain ⟨a, xs, rfl, h2, h3, h4⟩ := h
  rw [rpA_keys h4] at h2
  exact ⟨a, rfl, h2⟩
theorem ed_dgetT {kvs : List (List Key × PyData)} {k : List Key} (hd : ED K td ρ (dtD kvs)) (hk : ED K tk ρ (tkD k)) (h : findD kvs k = some d) : ED K (tDGet td tk) ρ d := fun H0 σ G H er s Q q =>
  hd H0 σ G H er s _ fun vd G1 H1 g1 r1 => hk H0 σ G1 H1 (er.grow g1) g1.gh _ fun vk G2 H2 g2 r2 => by
    obtain ⟨a, o, us, rfl, ra, hl, hG⟩ := Rp.dt.mp (r1.mono g2.gg)
    obtain ⟨u, e, ru⟩ := findD_some ra h
    obtain ⟨b, rfl, hb⟩ := r2.tkey
    exact ⟨a, u, rfl, .inr ⟨_, k, b, .inr ⟨o, g2.gh _ _ hG⟩, rfl, g2.gh _ _ hb, e.symm⟩, q u G2 H2 (g1.trans g2) ru⟩
/-- k in d -/
theorem ed_dinK {kvs : List (Key × PyData)} {k : Key} (hd : ED K td ρ (dkD kvs)) (hk : ED K tk ρ (keyD k)) : ED K (tDIn tk td) ρ (.bool (findD kvs k).isSome) := fun H0 σ G H er s Q q =>
  hk H0 σ G H er s _ fun vk G1 H1 g1 r1 => hd H0 σ G1 H1 (er.grow g1) g1.gh _ fun vd G2 H2 g2 r2 => by
    obtain ⟨a, o, us, rfl, ra, hl, hG⟩ := Rp.dk.mp r2
    rw [r1.key]
    refine ⟨a, _, rfl, .inl ⟨_, k, .inr ⟨o, g2.gh _ _ hG⟩, rfl, rfl⟩, ?_⟩
    rw [findD_isSome ra]
    exact q _ G2 H2 (g1.trans g2) rfl
theorem ed_dinT {kvs : List (List Key × PyData)} {k : List Key} (hd : ED K td ρ (dtD kvs)) (hk : ED K tk ρ (tkD k)) : ED K (tDIn tk td) ρ (.bool (findD kvs k).isSome) := fun H0 σ G H er s Q q =>
  hk H0 σ G H er s _ fun vk G1 H1 g1 r1 => hd H0 σ G1 H1 (er.grow g1) g1.gh _ fun vd G2 H2 g2 r2 => by
    obtain ⟨a, o, us, rfl, ra, hl, hG⟩ := Rp.dt.mp r2
    obtain ⟨b, rfl, hb⟩ := (r1.mono g2.gg).tkey
    refine ⟨a, _, rfl, .inr ⟨_, k, b, .inr ⟨o, g2.gh _ _ hG⟩, rfl, g2.gh _ _ hb, rfl⟩, ?_⟩
    rw [findD_isSome ra]
    exact q _ G2 H2 (g1.trans g2) rfl
theorem ed_dnotinK {kvs : List (Key × PyData)} {k : Key} (hd : ED K td ρ (dkD kvs)) (hk : ED K tk ρ (keyD k)) : ED K (tDNotIn tk td) ρ (.bool (!(findD kvs k).isSome)) := fun H0 σ G H er s Q q =>
  hk H0 σ G H er s _ fun vk G1 H1 g1 r1 => hd H0 σ G1 H1 (er.grow g1) g1.gh _ fun vd G2 H2 g2 r2 => by
    obtain ⟨a, o, us, rfl, ra, hl, hG⟩ := Rp.dk.mp r2
    rw [r1.key]
    refine ⟨a, _, rfl, .inl ⟨_, k, .inr ⟨o, g2.gh _ _ hG⟩, rfl, rfl⟩, ?_⟩
    rw [findD_isSome ra]
    exact q _ G2 H2 (g1.trans g2) rfl
theorem ed_dnotinT {kvs : List (List Key × PyData)} {k : List Key} (hd : ED K td ρ (dtD kvs)) (hk : ED K tk ρ (tkD k)) : ED K (tDNotIn tk td) ρ (.bool (!(findD kvs k).isSome)) := fun H0 σ G H er s Q q =>
  hk H0 σ G H er s _ fun vk G1 H1 g1 r1 => hd H0 σ G1 H1 (er.grow g1) g1.gh _ fun vd G2 H2 g2 r2 => by
    obtain ⟨a, o, us, rfl, ra, hl, hG⟩ := Rp.dt.mp r2
    obtain ⟨b, rfl, hb⟩ := (r1.mono g2.gg).tkey
    refine ⟨a, _, rfl, .inr ⟨_, k, b, .inr ⟨o, g2.gh _ _ hG⟩, rfl, g2.gh _ _ hb, rfl⟩, ?_⟩
    rw [findD_isSome ra]
    exact q _ G2 H2 (g1.trans g2) rfl
/-- d.get(k, x) -/
theorem ed_dgetOrK {kvs : List (Key × PyData)} {k : Key} (hd : ED K td ρ (dkD kvs)) (hk : ED K tk ρ (keyD k)) (hx : ED K tx ρ x) : ED K (tDGet2 td tk tx) ρ ((findD kvs k).getD x) := fun H0 σ G H er s Q q =>
  hd H0 σ G H er s _ fun vd G1 H1 g1 r1 => by
    obtain ⟨a, o, us, rfl, ra, hl, hG⟩ := Rp.dk.mp r1
    refine ⟨a, rfl, .inl ⟨_, .inr ⟨o, g1.gh _ _ hG⟩⟩, hk H0 σ G1 H1 (er.grow g1) g1.gh _ fun vk G2 H2 g2 r2 => hx H0 σ G2 H2 ((er.grow g1).grow g2) g2.gh _ fun vx G3 H3 g3 r3 => ?_⟩
    have g := (g1.trans g2).trans g3
    have s3 : Same G1 H3 := (g2.gg.trans g3.gg).trans g3.gh
    rw [r2.key]
    cases e : findD kvs k with
    | none => exact ⟨_, .inl ⟨_, k, .inr ⟨o, s3 _ _ hG⟩, rfl, (findD_none ra e).symm⟩, q _ G3 H3 g (by rw [e]; exact r3)⟩
    | some d =>
      obtain ⟨u, eu, ru⟩ := findD_some ra e
      exact ⟨_, .inl ⟨_, k, .inr ⟨o, s3 _ _ hG⟩, rfl, eu.symm⟩, q _ G3 H3 g (by rw [e]; exact ru.mono (g2.gg.trans g3.gg))⟩
/-! ### walks -/
theorem Grow.tup {G H : Hp} {b : Addr} {xs : List V} (s : Same G H) (hb : H b = some (.tup xs)) : Grow G H (upd G b (.tup xs)) H :=
  ⟨fun a o e => by
    by_cases h : a = b
    · subst h
      have := s _ _ e
      rw [hb] at this
      rw [upd_same]; exact this
    · rw [upd_ne h]; exact e, Same.refl H, fun a o e => by
    by_cases h : a = b
    · subst h; rw [upd_same] at e; rw [hb]; exact e
    · rw [upd_ne h] at e; exact s a o e, fun a h1 h2 => by
    by_cases h : a = b
    · subst h
      obtain ⟨o, e, n⟩ := h2
      rw [hb] at e
      exact absurd (Option.some.inj e).symm (n xs)
    · rw [upd_ne h]; exact h1⟩
theorem rpA_ofKeys {G : Hp} : ∀ k : List Key, RpA K G (k.map keyD) (k.map kV)
  | [] => rfl
  | .inl i :: ks => ⟨.int i, _, rfl, rfl, rpA_ofKeys ks⟩
  | .inr x :: ks => ⟨.str x, _, rfl, rfl, rpA_ofKeys ks⟩
theorem key_at {κ : Type} {kvs : List (κ × PyData)} {i : Nat} {k : κ} {g : κ → PyData} (e1 : (kvs.map (·.1))[i]? = some k) : (kvs.map fun p => g p.1)[i]? = some (g k) := by
  rw [List.getElem?_map] at e1 ⊢
  cases h : kvs[i]? with
  | none => rw [h] at e1; cases e1
  | some p => rw [h] at e1; simp at e1; simp [e1]
theorem zip_at {κ : Type} : ∀ {ks : List κ} {us : List V} {i : Nat} {k : κ} {u : V}, ks[i]? = some k → us[i]? = some u → (ks.zip us)[i]? = some (k, u) := fun h1 h2 => List.getElem?_zip_eq_some.mpr ⟨h1, h2⟩
theorem zip_len {κ : Type} {G : Hp} {kvs : List (κ × PyData)} {us : List V} (r : RpA K G (kvs.map (·.2)) us) : ((kvs.map (·.1)).zip us).length = kvs.length := by
  have := r.length
  simp at this
  simp [this]
/-- for k in d -/
theorem it_keysK {kvs : List (Key × PyData)} (hd : ED K td ρ (dkD kvs)) : IT K (iKeys td) ρ (kvs.map fun p => keyD p.1) := fun H0 σ G H er s R q => hd H0 σ G H er s _ fun vd G1 H1 g1 r1 => by
  obtain ⟨a, o, us, rfl, ra, hl, hG⟩ := Rp.dk.mp r1
  refine ⟨a, o, rfl, .inl ⟨_, g1.gh _ _ hG, q _ G1 H1 g1 ⟨fun i H s hi => ⟨s _ _ hG, by rw [zip_len ra]; simpa using Nat.le_of_eq hi.symm⟩, fun i H s hi => ⟨s _ _ hG, by rw [zip_len ra]; simpa using hi⟩, fun i x H H' s hi y => ?_⟩⟩⟩
  obtain ⟨rfl, k, v, e, rfl⟩ := y
  obtain ⟨e1, e2⟩ := List.getElem?_zip_eq_some.mp e
  refine ⟨G1, keyD k, Grow.refl s, ?_, ?_⟩
  · exact key_at e1
  · cases k <;> rfl
theorem it_keysT {kvs : List (List Key × PyData)} (hd : ED K td ρ (dtD kvs)) (hlk : ∀ k ∈ kvs.map (·.1), k.length ≤ LIM) : IT K (iKeys td) ρ (kvs.map fun p => tkD p.1) := fun H0 σ G H er s R q => hd H0 σ G H er s _ fun vd G1 H1 g1 r1 => by
  obtain ⟨a, o, us, rfl, ra, hl, hG⟩ := Rp.dt.mp r1
  refine ⟨a, o, rfl, .inr ⟨_, g1.gh _ _ hG, q _ G1 H1 g1 ⟨fun i H s hi => ⟨s _ _ hG, by rw [zip_len ra]; simpa using Nat.le_of_eq hi.symm⟩, fun i H s hi => ⟨s _ _ hG, by rw [zip_len ra]; simpa using hi⟩, fun i x H H' s hi y => ?_⟩⟩⟩
  obtain ⟨rfl, k, v, b, e, rfl, hb⟩ := y
  obtain ⟨e1, e2⟩ := List.getElem?_zip_eq_some.mp e
  refine ⟨_, tkD k, Grow.tup s hb, key_at e1, ⟨b, _, rfl, upd_same, ?_, rpA_ofKeys k⟩⟩
  rw [List.length_map]
  exact hlk k (List.mem_of_getElem? e1)
end
end D2

set_option Elab.async false
set_option linter.all false
set_option maxRecDepth 100000
set_option maxHeartbeats 4000000
namespace D2
open PySem PySem.Spec PyProof.Rows L2
/-! ### d.values() of a dict with tuple keys -/
section
variable {X : Cx} {pins : List (Addr × Obj)} {σ : L2.St} {H : Hp} {s : Shared} {d : Addr} {o : Obj}
theorem Inv.frzTv {kvs : List (List Key × V)} (I : Inv X pins σ H s) (h : H d = some (.frz o (.dT kvs))) :
    (d == sysModules) = false ∧ s.heap.get? d = some o ∧ o.ExactDict ∧ ∃ (es : Array DictEntry) (ep : Nat), o.data = .dict es ep ∧ es.size = kvs.length ∧
      ∀ (i : Nat) (k : List Key) (v : V), kvs[i]? = some (k, v) → ∃ (en : DictEntry), es[i]? = some en ∧ RelV v en.val := by
  obtain ⟨hd, z, hs, xs, pr, o', es, ep, ho, hx, hdt, he, _⟩ := I.hok d _ h
  rw [hd] at ho
  cases ho
  refine ⟨hs, hd, hx, es, ep, hdt, ?_, fun i k v e => ?_⟩
  · have l1 : es.size = xs.length := size_of_entries he
    have l2 : kvs.length = xs.length := Paired.length pr
    omega
  · obtain ⟨b, hb, e1, e2, e3⟩ := paired_get pr e
    have q := entry_at he i
    rw [hb] at q
    exact ⟨_, q, e3⟩
end
def Itdt (d : Addr) (o : Obj) (kvs : List (List Key × V)) : It :=
  ⟨fun i H => H d = some (.frz o (.dT kvs)) ∧ i < kvs.length, fun i H x H' => H' = H ∧ ∃ k, kvs[i]? = some (k, x), fun i H => H d = some (.frz o (.dT kvs)) ∧ kvs.length = i⟩
theorem turn_valsT {P : Program} {w : World} {K : PySem.W.Frag} {tg : Expr} {d : Addr} {o : Obj} {es : Array DictEntry} {ep : Nat} {kvs : List (List Key × V)} (it : Addr) (hne : d ≠ it) (hod : o.data = .dict es ep) :
    Turn P w K tg (Itdt d o kvs) [it] it (fun i h => h.IsValIter it d i es.size ep) where
  mem := by simp
  obj := fun i h st b hb => by
    have e : b = it := by simpa using hb
    subst e
    obtain ⟨oi, e, c, dd⟩ := st
    exact ⟨oi, e, fun v z => by rw [dd] at z; cases z⟩
  keep := fun i h h' st k => st.at fun oi e => k it (by simp) oi e
  item := by
    intro X hP hw hK hc i pins s σ H E I hf st hg
    subst hP hw hK
    obtain ⟨hd, hi⟩ := hg
    obtain ⟨f0, f1, f2, f3, f4, f5⟩ := hf it (by simp)
    obtain ⟨hs, hgd, hx, es', ep', hdt, hsz, ent⟩ := Inv.frzTv I hd
    obtain ⟨rfl, rfl⟩ := dict_ep hod hdt
    obtain ⟨⟨k, v⟩, hkv⟩ : ∃ p, kvs[i]? = some p := ⟨kvs[i], List.getElem?_eq_getElem hi⟩
    obtain ⟨en, hen, hv⟩ := ent i k v hkv
    refine (Walks.rawValues (A := X.A) (prog := X.prog) (w := X.w) (I.ok.hd hc) it d hne es' ep').item i s _ _ (by rw [hsz]; exact hi) ⟨st, ⟨o, hgd, hx, hdt⟩⟩ fun u h' tk hu st' kk => ?_
    obtain ⟨hi', hu⟩ := hu
    have eu : u = en.val := by
      rw [Array.getElem?_eq_getElem hi'] at hen
      rw [hu, Option.some.inj hen]
    subst eu
    have I1 : Inv X pins σ H { s with heap := h', toks := tk } := I.turned (t' := tk) (fun b ob hb e => kk b ob (by simpa using hb) e) f0 f1 f3 f4 f5
    obtain ⟨oi, e, c, dd⟩ := id st'.1
    exact ⟨en.val, rfl, go_of (s := { s with heap := h', toks := tk }) e c dd (by decide) ⟨v, H, I1, hv, ⟨rfl, k, hkv⟩, st'.1, fun b hb => (hf b hb).1⟩⟩
  done := by
    intro X hP hw hK hc i pins s σ H E I hf st hg
    subst hP hw hK
    obtain ⟨hd, hi⟩ := hg
    obtain ⟨f0, f1, f2, f3, f4, f5⟩ := hf it (by simp)
    obtain ⟨hs, hgd, hx, es', ep', hdt, hsz, ent⟩ := Inv.frzTv I hd
    obtain ⟨rfl, rfl⟩ := dict_ep hod hdt
    refine (Walks.rawValues (A := X.A) (prog := X.prog) (w := X.w) (I.ok.hd hc) it d hne es' ep').done s _ _ ⟨by rw [hsz, hi]; rw [hsz, hi] at st; exact st, ⟨o, hgd, hx, hdt⟩⟩ fun h' tk kk => ⟨rfl, I.turned (t' := tk) (fun b ob hb e => kk b ob (by simpa using hb) e) f0 f1 f3 f4 f5⟩
  self := fun A i s Q E st h => wpAny_pyIter_valiter st h
def iValsT (td : TE) : TI := fun σ H R => td σ H fun x H1 => ∃ d o kvs, x = .ref d ∧ H1 d = some (.frz o (.dT kvs)) ∧ R (Itdt d o kvs) H1
section
variable {X : Cx} {tg e : Expr} {td : TE} {apos cpos : Pos}
theorem pi_valuesT (he : PE X e td) (hbase : attributeBase e "values" X.env (eval e X.env) = eval e X.env := by rfl) (hline : (apos.endLine == cpos.line) = true := by rfl) : PI X tg (.Call (.Attribute e "values" apos) [] [] cpos) (iValsT td) := by
  refine ⟨fun pins s σ H R I h => ?_⟩
  refine wpAny_Call_method (T := "dict") (id := "dict.values") hbase rfl hline F.plainAttrs_dict F.slot_dict_values F.type_dict_values (thn (he.run pins s σ H _ I h) fun u s1 ⟨x, H1, I1, rx, d, o, kvs, ex, hd, q⟩ => ?_)
  subst ex
  obtain rfl : u = Value.ref d := rx
  obtain ⟨hs, hgd, hx, es, ep, hdt, hsz, ent⟩ := Inv.frzTv I1 hd
  have hT : s1.TypeIs (.ref d) "dict" := ⟨o, hgd, hx.1⟩
  refine ⟨hT, fun b hb => ⟨o, by cases hb; exact hgd, hx.2.1⟩, ?_⟩
  have hlt : d < s1.heap.objs.size := Heap.lt_size hgd
  have I2 : Inv X pins σ H1 { s1 with heap := s1.heap.push { cls := .type "dict_values", data := .fields #[.ref d] } } := I1.kept (t' := s1.toks) fun b ob q => Heap.get?_push_of_some _ q
  have hz : (s1.heap.push { cls := .type "dict_values", data := .fields #[.ref d] }).objs.size = s1.heap.objs.size + 1 := Heap.size_push ..
  have fin : wpAny (model X.prog X.w) X.A (pyIter (.ref s1.heap.objs.size)) (PIE X pins σ tg R) X.xe { s1 with heap := s1.heap.push { cls := .type "dict_values", data := .fields #[.ref d] } } := by
    refine wpAny_pyIter_values_raw (d := d) (es := es) (ep := ep) ⟨_, Heap.get?_push_size _ rfl, rfl, rfl⟩ ⟨o, Heap.get?_push_of_some _ hgd, hx, hdt⟩ (pi_one (tk := s1.toks) I2 _ (turn_valsT _ ?_ hdt) ⟨_, Heap.get?_push_size _ rfl, rfl, rfl⟩ q)
    show d ≠ (s1.heap.push _).objs.size
    rw [hz]; exact Nat.ne_of_lt (Nat.lt_succ_of_lt hlt)
  show wpAny _ _ (callWith cpos (.builtin "dict.values") [.ref d] [] []) _ X.xe s1
  exact method_meetsIn F.slot_dict_values F.entry_dict_values rfl (PySem.evalArgs_none ⟨rfl, hT, F.args_dict_values_1 _, _, meets_dict_values_raw d hs, ⟨es, ep, ⟨o, hgd, hx, hdt⟩⟩, fin⟩)
end
section
variable {K : PySem.W.Frag} {ρ : Sls K} {td : TE}
theorem it_valsT {kvs : List (List Key × PyData)} (hd : ED K td ρ (dtD kvs)) : IT K (iValsT td) ρ (kvs.map (·.2)) := fun H0 σ G H er s R q => hd H0 σ G H er s _ fun vd G1 H1 g1 r1 => by
  obtain ⟨a, o, us, rfl, ra, hl, hG⟩ := Rp.dt.mp r1
  refine ⟨a, o, _, rfl, g1.gh _ _ hG, q _ G1 H1 g1 ⟨fun i H s hi => ⟨s _ _ hG, by rw [zip_len ra]; simpa using hi.symm⟩, fun i H s hi => ⟨s _ _ hG, by rw [zip_len ra]; simpa using hi⟩, fun i x H H' s hi y => ?_⟩⟩
  obtain ⟨rfl, k, e⟩ := y
  obtain ⟨e1, e2⟩ := List.getElem?_zip_eq_some.mp e
  obtain ⟨d1, hd1⟩ := lt_get hi
  obtain ⟨v, hv, rv⟩ := ra.get hd1
  rw [hv] at e2; cases e2
  exact ⟨G1, d1, Grow.refl s, hd1, rv⟩
theorem it_valsK {kvs : List (Key × PyData)} (hd : ED K td ρ (dkD kvs)) : IT K (iVals td) ρ (kvs.map (·.2)) := fun H0 σ G H er s R q => hd H0 σ G H er s _ fun vd G1 H1 g1 r1 => by
  obtain ⟨a, o, us, rfl, ra, hl, hG⟩ := Rp.dk.mp r1
  refine ⟨a, o, _, rfl, g1.gh _ _ hG, q _ G1 H1 g1 ⟨fun i H s hi => ⟨s _ _ hG, by rw [zip_len ra]; simpa using Nat.le_of_eq hi.symm⟩, fun i H s hi => ⟨s _ _ hG, by rw [zip_len ra]; simpa using hi⟩, fun i x H H' s hi y => ?_⟩⟩
  obtain ⟨rfl, k, e⟩ := y
  obtain ⟨e1, e2⟩ := List.getElem?_zip_eq_some.mp e
  obtain ⟨d1, hd1⟩ := lt_get hi
  obtain ⟨v, hv, rv⟩ := ra.get hd1
  rw [hv] at e2; cases e2
  exact ⟨G1, d1, Grow.refl s, hd1, rv⟩
/-- for k, v in d.items() -/
theorem it_itemsK {kvs : List (Key × PyData)} (hd : ED K td ρ (dkD kvs)) : IT K (iItems td) ρ (kvs.map fun p => .tuple [keyD p.1, p.2]) := fun H0 σ G H er s R q => hd H0 σ G H er s _ fun vd G1 H1 g1 r1 => by
  obtain ⟨a, o, us, rfl, ra, hl, hG⟩ := Rp.dk.mp r1
  refine ⟨a, o, _, rfl, g1.gh _ _ hG, q _ G1 H1 g1 ⟨fun i H s hi => ⟨s _ _ hG, by rw [zip_len ra]; simpa using Nat.le_of_eq hi.symm⟩, fun i H s hi => ⟨s _ _ hG, by rw [zip_len ra]; simpa using hi⟩, fun i x H H' s hi y => ?_⟩⟩
  obtain ⟨T, k, v, e, rfl, hT, rfl⟩ := y
  obtain ⟨e1, e2⟩ := List.getElem?_zip_eq_some.mp e
  obtain ⟨p, hp⟩ := lt_get (xs := kvs) (i := i) (by simpa using hi)
  obtain ⟨v', hv', rv⟩ := ra.get (i := i) (d := p.2) (by rw [List.getElem?_map, hp]; rfl)
  rw [hv'] at e2; cases e2
  rw [List.getElem?_map, hp] at e1
  have ek : p.1 = k := by simpa using e1
  have sm := same_upd (o := .tup [kV k, v]) (Same.back s hT)
  refine ⟨_, .tuple [keyD p.1, p.2], Grow.new s hT, by rw [List.getElem?_map, hp]; rfl, ⟨T, _, rfl, upd_same, by show 2 ≤ LIM; decide, ⟨_, _, rfl, ?_, v, _, rfl, rv.mono sm, rfl⟩⟩⟩
  rw [ek]
  cases k <;> rfl
end
end D2

set_option Elab.async false
set_option linter.all false
set_option maxRecDepth 100000
set_option maxHeartbeats 4000000
namespace D2
open PySem PySem.Spec PyProof.Rows L2
/-! ### dicts of our own -/
section
variable {κ : Type} [DecidableEq κ]
def putD (kvs : List (κ × PyData)) (k : κ) (d : PyData) : List (κ × PyData) :=
  if (kvs.any fun p => decide (p.1 = k)) = true then kvs.map (fun p => if p.1 = k then (p.1, d) else p) else kvs ++ [(k, d)]
theorem putD_new {kvs : List (κ × PyData)} {k : κ} {d : PyData} (h : k ∉ kvs.map (·.1)) : putD kvs k d = kvs ++ [(k, d)] := by
  unfold putD
  rw [if_neg]
  intro e
  obtain ⟨p, hp, hk⟩ := List.any_eq_true.mp e
  exact h (List.mem_map.mpr ⟨p, hp, of_decide_eq_true hk⟩)
theorem putD_le (kvs : List (κ × PyData)) (k : κ) (d : PyData) : (putD kvs k d).length ≤ kvs.length + 1 := by
  unfold putD
  split
  · rw [List.length_map]; omega
  · simp
/-- z stands for kvs -/
def KVs (K : PySem.W.Frag) (G : Hp) (kvs : List (κ × PyData)) (z : List (κ × V)) : Prop := z.map (·.1) = kvs.map (·.1) ∧ RpA K G (kvs.map (·.2)) (z.map (·.2))
variable {K : PySem.W.Frag} {G : Hp}
theorem KVs.mono {G2 : Hp} {kvs : List (κ × PyData)} {z : List (κ × V)} (h : KVs K G kvs z) (s : Same G G2) : KVs K G2 kvs z := ⟨h.1, h.2.mono s⟩
theorem KVs.len {kvs : List (κ × PyData)} {z : List (κ × V)} (h : KVs K G kvs z) : z.length = kvs.length := by
  have := congrArg List.length h.1
  simpa using this
theorem KVs.nil : KVs K G ([] : List (κ × PyData)) [] := ⟨rfl, rfl⟩
theorem KVs.map {d : PyData} {v : V} {k : κ} (r : Rp K G d v) : ∀ {kvs : List (κ × PyData)} {z : List (κ × V)}, KVs K G kvs z → KVs K G (kvs.map fun p => if p.1 = k then (p.1, d) else p) (z.map fun p => if p.1 = k then (p.1, v) else p)
  | [], [], h => h
  | [], _ :: _, h => by have := h.1; simp at this
  | _ :: _, [], h => by have := h.1; simp at this
  | p :: kvs, q :: z, ⟨h1, h2⟩ => by
    have h1' : q.1 = p.1 ∧ z.map (·.1) = kvs.map (·.1) := by simpa using h1
    obtain ⟨u, us, e, ru, rs⟩ := h2
    have e' : q.2 = u ∧ z.map (·.2) = us := by simpa using e
    have ih := KVs.map (k := k) r (kvs := kvs) (z := z) ⟨h1'.2, by rw [e'.2]; exact rs⟩
    refine ⟨?_, ?_⟩
    · rw [List.map_cons, List.map_cons, List.map_cons, List.map_cons, ih.1, h1'.1]
      split <;> simp [h1'.1]
    · rw [List.map_cons, List.map_cons, List.map_cons, List.map_cons, h1'.1]
      refine ⟨_, _, rfl, ?_, ih.2⟩
      split
      · exact r
      · rw [e'.1]; exact ru
theorem KVs.put {kvs : List (κ × PyData)} {z : List (κ × V)} {d : PyData} {v : V} (k : κ) (h : KVs K G kvs z) (r : Rp K G d v) : KVs K G (putD kvs k d) (putK z k v) := by
  have e : (z.any fun p => decide (p.1 = k)) = (kvs.any fun p => decide (p.1 = k)) := by
    have a : ∀ {β : Type} (l : List (κ × β)), (l.any fun p => decide (p.1 = k)) = (l.map (·.1)).any fun x => decide (x = k) := fun l => by rw [List.any_map]; rfl
    rw [a, a, h.1]
  unfold putD putK
  rw [e]
  split
  · exact h.map r
  · refine ⟨by rw [List.map_append, List.map_append, h.1]; rfl, ?_⟩
    rw [List.map_append, List.map_append]
    exact h.2.snoc r
theorem zip_self_kv (z : List (κ × V)) : (z.map (·.1)).zip (z.map (·.2)) = z := by
  induction z with
  | nil => rfl
  | cons p z ih => rw [List.map_cons, List.map_cons, List.zip_cons_cons, ih]
end
def mtA (K : PySem.W.Frag) (kvs : List (List Key × PyData)) : OwnA K where
  P := fun G H v fp => ∃ p z, v = .ref p ∧ fp = [p] ∧ H p = some (.dT z) ∧ kvs.length ≤ LIM ∧ KVs K G kvs z
  loc := fun ⟨p, z, h1, h2, h3, h4, h5⟩ s k => ⟨p, z, h1, h2, (k p (by rw [h2]; simp)).trans h3, h4, h5.mono s⟩
def mkA (K : PySem.W.Frag) (kvs : List (Key × PyData)) : OwnA K where
  P := fun G H v fp => ∃ p z, v = .ref p ∧ fp = [p] ∧ H p = some (.dK z) ∧ kvs.length ≤ LIM ∧ KVs K G kvs z
  loc := fun ⟨p, z, h1, h2, h3, h4, h5⟩ s k => ⟨p, z, h1, h2, (k p (by rw [h2]; simp)).trans h3, h4, h5.mono s⟩
section
variable {K : PySem.W.Frag} {E : XK} {ρ : Sls K} {d : PyData} {te tk : TE} {t : TS} {o : Out K} {i : Nat}
/-- x = {} -/
theorem sd_newT : SD K E (tAsg tDNewT (gName i)) ρ (.nx (ρ.set i (.ow (mtA K [])))) := fun G0 H0 D σ G H g f q => fun p hp => by
  have g3 : Grow G H G (upd H p (.dT [])) := Grow.quiet g.gh (same_upd hp)
  refine q _ G _ (g.trans g3) (Same.refl G) (f.put g.hh g3 (fp := [p]) (fun a ha => ?_) ⟨p, [], rfl, rfl, upd_same, Nat.zero_le _, .nil⟩)
  have : a = p := by simpa using ha
  subst this
  exact ⟨hp, Same.back g.gh hp, .of upd_same⟩
theorem sd_newK : SD K E (tAsg tDNewK (gName i)) ρ (.nx (ρ.set i (.ow (mkA K [])))) := fun G0 H0 D σ G H g f q => fun p hp => by
  have g3 : Grow G H G (upd H p (.dK [])) := Grow.quiet g.gh (same_upd hp)
  refine q _ G _ (g.trans g3) (Same.refl G) (f.put g.hh g3 (fp := [p]) (fun a ha => ?_) ⟨p, [], rfl, rfl, upd_same, Nat.zero_le _, .nil⟩)
  have : a = p := by simpa using ha
  subst this
  exact ⟨hp, Same.back g.gh hp, .of upd_same⟩
/-- the step that replaces the thing at p alone -/
theorem Grow.at {G0 H0 G H : Hp} {p : Addr} {o : HO} (g : Grow G0 H0 G H) (hp : G p = none) : Grow G (D2.minus H [p]) G (upd H p o) :=
  ⟨Same.refl _, fun a o e => by
    by_cases ea : a = p
    · rw [ea, minus_in (by simp)] at e; cases e
    · rw [upd_ne ea]; rw [minus_out (by simpa using ea)] at e; exact e, fun a o e => by rw [upd_ne (ne_of_none e hp)]; exact g.gh a o e, fun a z1 z2 => z1⟩
/-- d[k] = e -/
theorem sd_dputT {kvs : List (List Key × PyData)} {k : List Key} (hx : ρ[i]? = some (.ow (mtA K kvs))) (he : ED K te ρ d) (hk : ED K tk ρ (tkD k)) (hl : kvs.length + 1 ≤ LIM) : SD K E (sDPut (tVar i) tk te) ρ (.nx (ρ.set i (.ow (mtA K (putD kvs k d))))) := fun G0 H0 D σ G H g f q =>
  he H0 σ G H f g.gh _ fun v G1 H1 g1 r1 => by
    have f1 := f.grow g1
    have gg1 := g.trans g1
    obtain ⟨u0, fp0, a1, ⟨p0, z0, rfl, rfl, _⟩, _⟩ := f1.own_at gg1.hh hx
    refine ⟨.ref p0, a1, hk H0 σ G1 H1 f1 g1.gh _ fun vk G2 H2 g2 r2 => ?_⟩
    have gg2 := gg1.trans g2
    obtain ⟨u, fp, b1, ⟨p, z, rfl, rfl, b3, b4, b5⟩, b6, kk⟩ := (f1.grow g2).own_at gg2.hh hx
    have ep : p = p0 := by rw [a1] at b1; cases b1; rfl
    subst ep
    obtain ⟨b, rfl, hb⟩ := r2.tkey
    have hp := b6 p (by simp)
    have g4 := gg2.at (o := .dT (putK z k v)) hp.1
    refine ⟨p, _, rfl, .inr ⟨z, k, b, b3, rfl, g2.gh _ _ hb, by rw [b5.len]; exact lim_lt (by omega), rfl⟩, ?_⟩
    exact q σ G2 _ (gg2.over g4 fun a ha => (b6 a ha).2.1) (g1.gg.trans g2.gg) (kk G2 _ (mtA K (putD kvs k d)) [p] g4 (fun a ha => by
      have : a = p := by simpa using ha
      subst this
      exact ⟨hp.1, .of upd_same, .inl (by simp)⟩) ⟨p, _, rfl, rfl, upd_same, by have := putD_le kvs k d; omega, b5.put k (r1.mono g2.gg)⟩)
theorem sd_dputK {kvs : List (Key × PyData)} {k : Key} (hx : ρ[i]? = some (.ow (mkA K kvs))) (he : ED K te ρ d) (hk : ED K tk ρ (keyD k)) (hl : kvs.length + 1 ≤ LIM) : SD K E (sDPut (tVar i) tk te) ρ (.nx (ρ.set i (.ow (mkA K (putD kvs k d))))) := fun G0 H0 D σ G H g f q =>
  he H0 σ G H f g.gh _ fun v G1 H1 g1 r1 => by
    have f1 := f.grow g1
    have gg1 := g.trans g1
    obtain ⟨u0, fp0, a1, ⟨p0, z0, rfl, rfl, _⟩, _⟩ := f1.own_at gg1.hh hx
    refine ⟨.ref p0, a1, hk H0 σ G1 H1 f1 g1.gh _ fun vk G2 H2 g2 r2 => ?_⟩
    have gg2 := gg1.trans g2
    obtain ⟨u, fp, b1, ⟨p, z, rfl, rfl, b3, b4, b5⟩, b6, kk⟩ := (f1.grow g2).own_at gg2.hh hx
    have ep : p = p0 := by rw [a1] at b1; cases b1; rfl
    subst ep
    rw [r2.key]
    have hp := b6 p (by simp)
    have g4 := gg2.at (o := .dK (putK z k v)) hp.1
    refine ⟨p, _, rfl, .inl ⟨z, k, b3, rfl, by rw [b5.len]; exact lim_lt (by omega), rfl⟩, ?_⟩
    exact q σ G2 _ (gg2.over g4 fun a ha => (b6 a ha).2.1) (g1.gg.trans g2.gg) (kk G2 _ (mkA K (putD kvs k d)) [p] g4 (fun a ha => by
      have : a = p := by simpa using ha
      subst this
      exact ⟨hp.1, .of upd_same, .inl (by simp)⟩) ⟨p, _, rfl, rfl, upd_same, by have := putD_le kvs k d; omega, b5.put k (r1.mono g2.gg)⟩)
/-! ### a dict is from now on as it is -/
def tFrz (t : TS) : TS := fun D σ H => ∃ d u, H d = some u ∧ Mut (some u) ∧ ∀ od, t D σ (upd H d (.frz od u))
def tFrzE (t : TE) : TE := fun σ H Q => t σ H fun v H1 => ∃ d u, v = .ref d ∧ H1 d = some u ∧ Mut (some u) ∧ ∀ od, Q v (upd H1 d (.frz od u))
theorem ps_frz {X : Cx} {st : Stmt} {t : TS} (h : PS X st t) : PS X st (tFrz t) := ⟨fun pins s σ H D I hw => by
  obtain ⟨d, u, hd, mu, hw⟩ := hw
  obtain ⟨od, I1⟩ := I.lock hd mu
  exact h.run pins s σ _ D I1 (hw od)⟩
theorem pe_frz {X : Cx} {e : Expr} {t : TE} (h : PE X e t) : PE X e (tFrzE t) := ⟨fun pins s σ H Q I hw => by
  refine wpAny_mono (h.run pins s σ H _ I hw) (fun v s1 hq => ?_) fun _ _ x => x
  obtain ⟨x, H1, I1, r, d, u, rfl, hd, mu, q⟩ := hq
  obtain ⟨od, I2⟩ := I1.lock hd mu
  exact ⟨.ref d, _, I2, r, q od⟩⟩
theorem sd_frzT {kvs : List (List Key × PyData)} (i : Nat) (hx : ρ[i]? = some (.ow (mtA K kvs))) (h : SD K E t (ρ.set i (.da (dtD kvs))) o) : SD K E (tFrz t) ρ o := fun G0 H0 D σ G H g f q => by
  obtain ⟨v, fp, a1, ⟨p, z, rfl, rfl, a4, a5, a6⟩, a3, k⟩ := f.frz (d := dtD kvs) hx
  have a2 := a3 p (by simp)
  refine ⟨p, _, a4, trivial, fun od => ?_⟩
  have s1 : Same G (upd G p (.frz od (.dT z))) := same_upd a2.1
  have s2 : Same (upd G p (.frz od (.dT z))) (upd H p (.frz od (.dT z))) := fun a o z => by
    by_cases e : a = p
    · subst e; rw [upd_same] at z ⊢; exact z
    · rw [upd_ne e] at z ⊢; exact g.gh a o z
  have g2 : Grow G0 H0 (upd G p (.frz od (.dT z))) (upd H p (.frz od (.dT z))) := ⟨g.gg.trans s1, fun a o e => by rw [upd_ne (ne_of_none e a2.2.1)]; exact g.hh a o e, s2, fun a z1 z2 => by rw [upd_ne (fun e => z2.ne (by rw [e]; exact a2.2.1))]; exact g.sep a z1 z2⟩
  exact h G0 H0 D σ _ _ g2 (k _ _ s1 s2 (fun a ha => upd_ne (fun e => ha (by simp [e]))) (fun a ha => upd_ne (fun e => ha (by simp [e]))) (Rp.dt.mpr ⟨p, od, z.map (·.2), rfl, a6.2.mono s1, a5, by rw [upd_same, ← a6.1, zip_self_kv]⟩)) (q.later s1)
theorem sd_frzK {kvs : List (Key × PyData)} (i : Nat) (hx : ρ[i]? = some (.ow (mkA K kvs))) (h : SD K E t (ρ.set i (.da (dkD kvs))) o) : SD K E (tFrz t) ρ o := fun G0 H0 D σ G H g f q => by
  obtain ⟨v, fp, a1, ⟨p, z, rfl, rfl, a4, a5, a6⟩, a3, k⟩ := f.frz (d := dkD kvs) hx
  have a2 := a3 p (by simp)
  refine ⟨p, _, a4, trivial, fun od => ?_⟩
  have s1 : Same G (upd G p (.frz od (.dK z))) := same_upd a2.1
  have s2 : Same (upd G p (.frz od (.dK z))) (upd H p (.frz od (.dK z))) := fun a o z => by
    by_cases e : a = p
    · subst e; rw [upd_same] at z ⊢; exact z
    · rw [upd_ne e] at z ⊢; exact g.gh a o z
  have g2 : Grow G0 H0 (upd G p (.frz od (.dK z))) (upd H p (.frz od (.dK z))) := ⟨g.gg.trans s1, fun a o e => by rw [upd_ne (ne_of_none e a2.2.1)]; exact g.hh a o e, s2, fun a z1 z2 => by rw [upd_ne (fun e => z2.ne (by rw [e]; exact a2.2.1))]; exact g.sep a z1 z2⟩
  exact h G0 H0 D σ _ _ g2 (k _ _ s1 s2 (fun a ha => upd_ne (fun e => ha (by simp [e]))) (fun a ha => upd_ne (fun e => ha (by simp [e]))) (Rp.dk.mpr ⟨p, od, z.map (·.2), rfl, a6.2.mono s1, a5, by rw [upd_same, ← a6.1, zip_self_kv]⟩)) (q.later s1)
end
end D2

set_option Elab.async false
set_option linter.all false
set_option maxRecDepth 100000
set_option maxHeartbeats 4000000
namespace D2
open PySem PySem.Spec PyProof.Rows L2
section
variable {K : PySem.W.Frag} {E : XK} {ρ : Sls K} {d : PyData} {te tk tv ta : TE} {t : TS} {o : Out K} {i : Nat} {trs : List (TE × TE)}
/-! ### {"a": e, ..} -/
def EDP (K : PySem.W.Frag) (trs : List (TE × TE)) (ρ : Sls K) (kvs : List (Key × PyData)) : Prop := ∀ H0 σ G H, FrOk K H0 G H ρ σ → Same G H → ∀ Q : List (V × V) → Hp → Prop,
  (∀ (us : List V) G2 H2, Grow G H G2 H2 → RpA K G2 (kvs.map (·.2)) us → Q (((kvs.map (·.1)).zip us).map fun p => (kV p.1, p.2)) H2) → tPairs trs σ H Q
theorem edp_nil : EDP K [] ρ [] := fun H0 σ G H er s Q q => q [] G H (Grow.refl s) rfl
theorem edp_cons {k : Key} {kvs : List (Key × PyData)} (hk : ED K tk ρ (keyD k)) (hv : ED K tv ρ d) (hr : EDP K trs ρ kvs) : EDP K ((tk, tv) :: trs) ρ ((k, d) :: kvs) := fun H0 σ G H er s Q q =>
  hk H0 σ G H er s _ fun vk G1 H1 g1 r1 => hv H0 σ G1 H1 (er.grow g1) g1.gh _ fun v G2 H2 g2 r2 => hr H0 σ G2 H2 ((er.grow g1).grow g2) g2.gh _ fun us G3 H3 g3 r3 => by
    have := q (v :: us) G3 H3 ((g1.trans g2).trans g3) ⟨v, us, rfl, r2.mono g3.gg, r3⟩
    rw [r1.key]
    exact this
theorem mergeK_new : ∀ {more acc : List (Key × V)}, ((acc ++ more).map (·.1)).Nodup → mergeK acc more = acc ++ more
  | [], acc, _ => by rw [List.append_nil]; rfl
  | p :: more, acc, h => by
    have hn : valV acc p.1 = none := by
      have : (acc.any fun kv => decide (kv.1 = p.1)) = false := by
        rw [Bool.eq_false_iff]
        intro e
        obtain ⟨q, hq, hk⟩ := List.any_eq_true.mp e
        rw [List.map_append, List.map_cons] at h
        have := (List.nodup_append.mp h).2.2 q.1 (List.mem_map_of_mem hq) p.1 List.mem_cons_self
        exact this (of_decide_eq_true hk)
      rw [valV_any] at this
      cases e : valV acc p.1 with
      | none => rfl
      | some x => rw [e] at this; cases this
    show mergeK (putK acc p.1 p.2) more = _
    rw [putK_new p.2 hn, mergeK_new (by simpa using h)]
    simp
theorem ed_disp {kvs : List (Key × PyData)} (h : EDP K trs ρ kvs) (hn : (kvs.map (·.1)).Nodup) (hl : kvs.length ≤ 15) : ED K (tFrzE (tDisp trs)) ρ (dkD kvs) := fun H0 σ G H er s Q q p hp => by
  have s1 : Same H (upd H p (.dK [])) := same_upd hp
  refine h H0 σ G _ (er.quiet s s1) (s.trans s1) _ fun us G2 H2 g2 r2 => ?_
  have hp2 : H2 p = some (.dK []) := g2.hh _ _ upd_same
  have gp : G2 p = none := g2.sep p (Same.back s hp) (.of upd_same)
  have l2 := r2.length
  rw [List.length_map] at l2
  have ez : ((kvs.map (·.1)).zip us).map (·.1) = kvs.map (·.1) := by rw [List.map_fst_zip]; simp [l2]
  refine ⟨hp2, (kvs.map (·.1)).zip us, rfl, by rw [List.length_zip, List.length_map]; omega, p, _, rfl, upd_same, trivial, fun od => ?_⟩
  rw [upd_upd, mergeK_new (by rw [List.nil_append, ez]; exact hn), List.nil_append]
  have sg : Same G2 (upd G2 p (.frz od (.dK ((kvs.map (·.1)).zip us)))) := same_upd gp
  refine q _ (upd G2 p (.frz od (.dK ((kvs.map (·.1)).zip us)))) _ ⟨g2.gg.trans sg, fun a o e => ?_, fun a o e => ?_, fun a z1 z2 => ?_⟩ (Rp.dk.mpr ⟨p, od, us, rfl, r2.mono sg, Nat.le_trans hl (by decide), upd_same⟩)
  · rw [upd_ne (ne_of_none e hp)]; exact g2.hh _ _ (s1 _ _ e)
  · by_cases ea : a = p
    · subst ea; rw [upd_same] at e ⊢; exact e
    · rw [upd_ne ea] at e ⊢; exact g2.gh a o e
  · rw [upd_ne (fun e => z2.ne (by rw [e]; exact hp))]
    exact g2.sep a z1 (z2.up s1)
/-! ### isinstance(x, dict) -/
def rIsD (K : PySem.W.Frag) (T : String) : List V → Hp → VK → Prop := fun xs H Q => ∃ (a : Addr) (o : Obj) (b : Bool), xs = [.ref a, .ty T] ∧ ((∃ kvs, H a = some (.frz o (.dT kvs))) ∨ ∃ kvs, H a = some (.frz o (.dK kvs))) ∧ PySem.W.kitOne K (.type "dict") (.type T) = some b ∧ Q (.bl b) H
theorem k_isD {X : Cx} {T : String} (h : X.K = K := by rfl) : CallR X (.builtin "isinstance") (rIsD K T) := by
  subst h
  intro pins s σ H xs us Q I r h
  obtain ⟨a, o, b, rfl, hd, e, q⟩ := h
  obtain ⟨u1, u2, rfl, r1, r2⟩ := vals2 r
  cases (show u2 = Value.type T from r2)
  cases (show u1 = Value.ref a from r1)
  have hT : ∃ o, s.heap.get? a = some o ∧ o.cls = .type "dict" := by
    rcases hd with ⟨kvs, hd⟩ | ⟨kvs, hd⟩
    · obtain ⟨_, _, _, xs, _, o', es, ep, h1, h2, _⟩ := (show ObjOk X.prog X.w H s.heap a (.frz o (.dT kvs)) from I.hok a _ hd)
      exact ⟨o', h1, h2.1⟩
    · obtain ⟨_, _, _, vs, _, o', es, ep, h1, h2, _⟩ := (show ObjOk X.prog X.w H s.heap a (.frz o (.dK kvs)) from I.hok a _ hd)
      exact ⟨o', h1, h2.1⟩
  exact PySem.W.kia_one PySem.W.kitx_dict I.kIn hT e (fun z => nomatch z) fun tk => ⟨.bl b, H, I.tok tk, rfl, q⟩
theorem ed_isDT {n : String} {b : Bool} {kvs : List (List Key × PyData)} (ha : ED K ta ρ (dtD kvs)) (hk : kitB "dict" n = some b) : ED K (tCB (rIsD K n) (tCons ta (tCons (tC (.ty n)) tNil))) ρ (.bool b) := fun H0 σ G H er s Q q =>
  ha H0 σ G H er s _ fun v G2 H2 g r => by
    obtain ⟨a, o, us, rfl, ra, hl, hG⟩ := Rp.dt.mp r
    exact ⟨a, o, b, rfl, .inl ⟨_, g.gh _ _ hG⟩, kit_ty hk, q _ G2 H2 g rfl⟩
/-! ### instances that change no more -/
def lookF (fs : List (Str × PyData)) (f : Str) : Option PyData := fs.lookup f
theorem look_zip {G : Hp} {f : Str} {d : PyData} : ∀ {fs : List (Str × PyData)} {us : List V}, RpA K G (fs.map (·.2)) us → fs.lookup f = some d → ∃ u, ((fs.map (·.1)).zip us).lookup f = some u ∧ Rp K G d u
  | [], _, _, e => by simp at e
  | (g, x) :: fs, _, ⟨u, us, h1, h2, h3⟩, e => by
    cases h1
    rw [List.lookup_cons] at e
    rw [List.map_cons, List.zip_cons_cons, List.lookup_cons]
    cases hb : (f == g) with
    | true => rw [hb] at e; cases e; exact ⟨u, rfl, h2⟩
    | false => rw [hb] at e; exact look_zip h3 e
theorem look_none {G : Hp} {f : Str} : ∀ {fs : List (Str × PyData)} {us : List V}, fs.lookup f = none → ((fs.map (·.1)).zip us).lookup f = none
  | [], _, _ => by simp
  | (g, x) :: fs, [], _ => by simp
  | (g, x) :: fs, u :: us, e => by
    rw [List.lookup_cons] at e
    rw [List.map_cons, List.zip_cons_cons, List.lookup_cons]
    cases hb : (f == g) with
    | true => rw [hb] at e; cases e
    | false => rw [hb] at e; exact look_none (G := G) e
theorem ClsAt.inj {c : Str} {C D : Addr} (h : ClsAt K c C) (h' : ClsAt K c D) : C = D := by
  unfold ClsAt at h h'
  rw [h] at h'
  exact Value.ref.inj (Option.some.inj (Option.some.inj h'))
/-- o.f -/
theorem ed_fld {c f : Str} {C : Addr} {fs : List (Str × PyData)} (h : ED K ta ρ (obD c fs)) (hc : ClsAt K c C) (cl : Cls K C) (na : NoAttr K C f) (hf : fs.lookup f = some d) : ED K (tFld K ta f) ρ d := fun H0 σ G H er s Q q =>
  h H0 σ G H er s _ fun v G2 H2 g r => by
    obtain ⟨x, C', dx, us, rfl, ra, hC, hG⟩ := Rp.ob.mp r
    cases hC.inj hc
    obtain ⟨u, e, ru⟩ := look_zip ra hf
    exact ⟨x, C, dx, _, u, rfl, g.gh _ _ hG, cl, na, e, q u G2 H2 g ru⟩
/-- o.m(e, ..) -/
theorem ed_meth {c m : Str} {C : Addr} {fs : List (Str × PyData)} {R : List PyData → Res → Prop} {t : TA} {ds : List PyData} (h : ED K ta ρ (obD c fs)) (hc : ClsAt K c C) (hf : fs.lookup m = none) (hd : EDA K t ρ ds) (hr : R (obD c fs :: ds) (.val d)) : ED K (tMeth C m (spD K R) [] E ta t) ρ d := fun H0 σ G H er s Q q =>
  h H0 σ G H er s _ fun v G2 H2 g r => by
    obtain ⟨x, C', dx, us, rfl, ra, hC, hG⟩ := Rp.ob.mp r
    cases hC.inj hc
    refine ⟨x, dx, _, rfl, g.gh _ _ hG, look_none (G := G2) hf, hd H0 σ G2 H2 (er.grow g) g.gh _ fun vs G3 H3 g3 r3 => ?_⟩
    exact ⟨G3, obD c fs :: ds, .val d, g3.gh, ⟨_, _, rfl, r.mono g3.gg, by rw [List.append_nil]; exact r3⟩, hr, fun v G4 H4 g4 r4 => q v G4 H4 ((g.trans g3).trans g4) r4⟩
end
end D2

set_option Elab.async false
set_option linter.all false
set_option maxRecDepth 100000
set_option maxHeartbeats 4000000
namespace D2
open PySem PySem.Spec PyProof.Rows L2
/-! ### raise X() of an own class over ValueError -/
/-- the exception class named x, as the top leaves it -/
structure XFact (K : PySem.W.Frag) (mg : Str → Option Value) (x : Str) (C : Addr) : Prop where
  g : mg x = some (.ref C)
  at_ : ClsAt K x C
  exc : PySem.W.excIn K C [.type "ValueError", .type "Exception", .type "BaseException", .type "object"] "ValueError.__new__" = true
  kp : PySem.W.keepIn K (.ref C) = true
  sub : PySem.W.subIn K (.ref C) (.type "BaseException") = some true
  ty : PySem.W.typeIn K (.ref C) = some (.type "type")
structure XAt (K : PySem.W.Frag) (mg : Str → Option Value) (x : Str) : Prop where
  ex : ∃ C, XFact K mg x C
noncomputable def XAt.C {K : PySem.W.Frag} {mg : Str → Option Value} {x : Str} (h : XAt K mg x) : Addr := Classical.choose h.ex
theorem XAt.f {K : PySem.W.Frag} {mg : Str → Option Value} {x : Str} (h : XAt K mg x) : XFact K mg x h.C := Classical.choose_spec h.ex
def tRaise (E : XK) (C : Addr) : TS := fun _ _ H => E (.ref C) none H
section
variable {X : Cx} {x : Str}
/-- X() -/
theorem pmk_own0 {C : Addr} {bmB : List Value} {B newId initId : String} {p pos : Pos} (F : ExcBaseFacts B newId initId bmB) (q : PySem.W.excIn X.K C bmB newId = true) (gC : X.mg x = some (.ref C)) (kC : PySem.W.keepIn X.K (.ref C) = true) (r : Raises X (.ref C)) (hg : Gl X x)
    (hdb : (x == ("__debug__" : Str)) = false := by decide) : PMk X (.Call (.Name x p) [] [] pos) (fun _ H Q => Q (.ref C) none H) := by
  intro pins s σ H Q I h
  refine wpAny_Call_Name_kw (ld_glob I hg gC ?_ hdb)
  refine PySem.W.callWith_K0 I.kIn kC ?_
  show wpAny _ _ (call (.ref C) []) _ _ _
  obtain ⟨bm, N, nm, qn, bs, hdct, sn, sub, ab, col, dd, k0, k1, k2, k3, k5, mN, hC, hN, hni, T⟩ := exc_obj I.kIn q
  obtain ⟨hp1, g1, d1, tk1, os1⟩ := s
  refine wpAny_call_exc_subT F T hC hN hni (fun h' e hm => ?_) (Nat.zero_le _)
  exact mk_of I hm r h (I.hok.gone hm.new)
theorem ps_raiseD {E : XK} {p pos pos' : Pos} {K : PySem.W.Frag} {mg : Str → Option Value} (A : XAt K mg x) (hc : X.calm = true) (tk : Takes X (fun cls d _ H => E cls d H)) (hg : Gl X x) (hX : X.K = K ∧ X.mg = mg := by exact ⟨rfl, rfl⟩)
    (hdb : (x == ("__debug__" : Str)) = false := by decide) : PS X (.Raise (some (.Call (.Name x p) [] [] pos')) none pos) (tRaise E A.C) := by
  obtain ⟨rfl, rfl⟩ := hX
  exact ps_raise hc tk (pmk_own0 PySem.F.excBase_ValueError A.f.exc A.f.g A.f.kp (raises_own A.f.sub A.f.ty) hg hdb)
end
section
variable {K : PySem.W.Frag} {mg : Str → Option Value} {x : Str} {E : XK} {ρ : Sls K} {u : TS}
theorem sd_raise (A : XAt K mg x) : SD K E (tRaise E A.C) ρ (.ex x) := fun G0 H0 D σ G H g f q => q A.C A.f.at_ H g.hh
theorem sd_raise_seq (A : XAt K mg x) : SD K E (tSeq (tRaise E A.C) u) ρ (.ex x) := fun G0 H0 D σ G H g f q => q A.C A.f.at_ H g.hh
/-- what a def may let out is let out here, too -/
theorem passC {X : Cx} {E : XK} (hs : X.stack = X.env :: X.outer := by rfl) (hf : X.env.frame = some X.env.locals := by rfl) (hex : X.ex = [] := by rfl) {E₁ : Value → Shared → Prop}
    (hx : X.xe = fun e s' => wpAny (model X.prog X.w) X.A (leaving X.env e) (fun _ s'' => L2.CX X.prog X.w X.outer X.H_0 X.s_0 E e s'') E₁ s' := by rfl) : Passes (L2.CX X.prog X.w) X E :=
  passes_call (takes_of hs hf hex hx) fun _ _ _ _ h => h
end
/-! ### try: f(..) except X as n: .. -/
section
variable {X : Cx} {K : PySem.W.Frag}
/-- isinstance(n, c), n the caught one -/
def rIsE2 (K : PySem.W.Frag) (cls : Value) (d : Option Addr) (a : Addr) : List V → Hp → VK → Prop := fun xs H Q => ∃ D, cls = .ref D ∧ d = none ∧ ExcC K D ∧ rIsE K D a xs H Q
theorem k_isE2 {a : Addr} {oe : Obj} {pn : List (Addr × Obj)} {cls : Value} {d : Option Addr} (hz : Zc cls d oe) (hf : ∃ vs, oe.data = .fields vs) (hK : X.K = K := by rfl) : CallR (X.suite a ((a, oe) :: pn)) (.builtin "isinstance") (rIsE2 K cls d a) := by
  subst hK
  intro pins s σ H xs us Q I r h
  obtain ⟨D, rfl, rfl, C, h⟩ := h
  exact call_isE C hz hf pins s σ H xs us Q I r h
end
def TBQ (K : PySem.W.Frag) (W : WX) (D : Ends) (σ : L2.St) (G H : Hp) : Option Str → Prop
  | some c => ∀ C, ClsAt K c C → ∀ H2, Same H H2 → W (.ref C) none σ H2
  | none => ∀ G2 H2, Grow G H G2 H2 → D.nx σ H2
/-- a body of a try: it leaves the slots as they are; it ends, or a class named c leaves it -/
def TBD (K : PySem.W.Frag) (tb : WX → TS) (ρ : Sls K) (o : Option Str) : Prop := ∀ (W : WX) (D : Ends) (H0 : Hp) (σ : L2.St) (G H : Hp), FrOk K H0 G H ρ σ → Same G H →
  TBQ K W D σ G H o → tb W D σ H
section
variable {K : PySem.W.Frag} {ρ : Sls K} {t : TA} {ds : List PyData} {R : List PyData → Res → Prop} {c : Str} {d : PyData} {tt : TT} {b : Bool} {o : Option Str} {tb ub : WX → TS}
theorem tbd_exc (ha : EDA K t ρ ds) (hr : R ds (.exc c)) : TBD K (fun W => tDrop (tCallS (spD K R) (WE W) t)) ρ (some c) := fun W D H0 σ G H f s q =>
  ha H0 σ G H f s _ fun vs G2 H2 g2 r => ⟨G2, ds, .exc c, g2.gh, r, hr, fun C hC H3 e3 => q C hC H3 (g2.hh.trans e3)⟩
theorem tbd_val (ha : EDA K t ρ ds) (hr : R ds (.val d)) : TBD K (fun W => tDrop (tCallS (spD K R) (WE W) t)) ρ none := fun W D H0 σ G H f s q =>
  ha H0 σ G H f s _ fun vs G2 H2 g2 r => ⟨G2, ds, .val d, g2.gh, r, hr, fun v G3 H3 g3 r3 => q G3 H3 (g2.trans g3)⟩
theorem tbd_seq {o : Option Str} (h1 : TBD K tb ρ none) (h2 : TBD K ub ρ o) : TBD K (fun W => tSeq (tb W) (ub W)) ρ o := fun W D H0 σ G H f s q =>
  h1 W _ H0 σ G H f s fun G2 H2 g2 => h2 W D H0 σ G2 H2 (f.grow g2) g2.gh (by
    cases o with
    | none => exact fun G3 H3 g3 => q G3 H3 (g2.trans g3)
    | some c => exact fun C hC H3 e => q C hC H3 (g2.hh.trans e))
theorem tbd_seqX (h1 : TBD K tb ρ (some c)) : TBD K (fun W => tSeq (tb W) (ub W)) ρ (some c) := fun W D H0 σ G H f s q => h1 W _ H0 σ G H f s q
theorem tbd_next : TBD K (fun _ => tNext) ρ none := fun W D H0 σ G H f s q => q G H (Grow.refl s)
theorem tbd_if {o : Option Str} (hc : ET K tt ρ b) (h1 : b = true → TBD K tb ρ o) (h2 : b = false → TBD K ub ρ o) : TBD K (fun W => tIfS tt (tb W) (ub W)) ρ o := fun W D H0 σ G H f s q =>
  hc H0 σ G H f s _ fun H2 e => by
    have q' : TBQ K W D σ G H2 o := by
      cases o with
      | none => exact fun G3 H3 g3 => q G3 H3 ((Grow.quiet s e).trans g3)
      | some c => exact fun C hC H3 e3 => q C hC H3 (e.trans e3)
    cases b with
    | true => exact iteT (h1 rfl W D H0 σ G H2 (f.quiet s e) (s.trans e) q')
    | false => exact iteF (h2 rfl W D H0 σ G H2 (f.quiet s e) (s.trans e) q')
end
section
variable {K : PySem.W.Frag} {E : XK} {ρ : Sls K} {tb : WX → TS} {i : Nat} {c x : Str} {cc : Value} {o : Out K} {u : TS}
/-- the body ends -/
theorem sd_try_ok {ts : Addr → Value → Option Addr → TS} {Wout : WX} (h : TBD K tb ρ none) : SD K E (fun D σ H => tb (wAs K cc i ts Wout D) D σ H) ρ (.nx ρ) := fun G0 H0 D σ G H g f q =>
  h _ D H0 σ G H f g.gh fun G2 H2 g2 => q σ G2 H2 (g.trans g2) g2.gg (f.grow g2)
/-- the body raises, the suite answers whether it is one of the class at D: except cc as n: return isinstance(n, Y) -/
theorem sd_try_isE {Wout : WX} {b : Bool} {D : Addr} {tc : TE} (h : TBD K tb ρ (some c)) (hi : i < ρ.length) (hm : ∀ C, ClsAt K c C → PySem.W.exmOne K (.ref C) cc = some true ∧ ExcC K C ∧ PySem.W.kitOne K (.ref C) (.ref D) = some b) :
    SD K E (fun Dn σ H => tb (wAs K cc i (fun a cls d => tRet (tCB (rIsE2 K cls d a) (tCons (tVar i) (tCons (tC (.ref D)) tNil)))) Wout Dn) Dn σ H) ρ (.rt (.bool b)) := fun G0 H0 Dn σ G H g f q =>
  h _ Dn H0 σ G H f g.gh fun C hC H2 e => by
    obtain ⟨h1, h2, h3⟩ := hm C hC
    refine ⟨true, h1, fun _ a ha => ?_, fun z => by cases z⟩
    refine ⟨.ref a, by rw [List.getElem?_set, if_pos rfl, if_pos (by rw [f.len]; exact hi)], ?_⟩
    refine ⟨C, rfl, rfl, h2, .ref D, .ref D, b, rfl, fun u r => r, h3, ?_⟩
    have g2 := g.trans (Grow.quiet g.gh e)
    exact q _ G H2 g2 rfl
end
end D2

set_option Elab.async false
set_option linter.all false
set_option maxRecDepth 100000
set_option maxHeartbeats 4000000
namespace D2
open PySem.W (AllAlike Sortable dataLe alike)
open PySem PySem.Spec PyProof.Rows L2
/-! ### helpers of the printer -/
section
variable {K : PySem.W.Frag} {E : XK} {ρ ρ' : Sls K} {t u : TS} {d x y : PyData} {c : Str}
theorem sd_early (h : SD K E t ρ (.rt d)) : SD K E (tSeq t u) ρ (.rt d) := fun G0 H0 D σ G H g f q => h G0 H0 _ σ G H g f q
theorem sd_earlyX (h : SD K E t ρ (.ex c)) : SD K E (tSeq t u) ρ (.ex c) := fun G0 H0 D σ G H g f q => h G0 H0 _ σ G H g f q
theorem sd_earlyC (h : SD K E t ρ (.ct ρ')) : SD K E (tSeq t u) ρ (.ct ρ') := fun G0 H0 D σ G H g f q => h G0 H0 _ σ G H g f q
theorem sd_earlyB (h : SD K E t ρ (.bk ρ')) : SD K E (tSeq t u) ρ (.bk ρ') := fun G0 H0 D σ G H g f q => h G0 H0 _ σ G H g f q
theorem it_zipm {α β : Type} {f : α → PyData} {g : β → PyData} {xs : List α} {ys : List β} {b1 b2 : Bool} {ta : TA} (h : EDA K ta ρ [x, y]) (h1 : isSeqD x = some (b1, xs.map f)) (h2 : isSeqD y = some (b2, ys.map g)) :
    IT K (iZipM K ta) ρ ((xs.zip ys).map fun p => .tuple [f p.1, g p.2]) := by
  have e : (xs.zip ys).map (fun p => PyData.tuple [f p.1, g p.2]) = List.zipWith (fun x y => PyData.tuple [x, y]) (xs.map f) (ys.map g) := by
    rw [List.zipWith_map, List.zip_eq_zipWith, List.map_zipWith]
  rw [e]
  exact it_zip h h1 h2
theorem ed_lzipm {α β : Type} {f : α → PyData} {g : β → PyData} {xs : List α} {ys : List β} {b1 b2 : Bool} {ta : TA} (h : EDA K ta ρ [x, y]) (h1 : isSeqD x = some (b1, xs.map f)) (h2 : isSeqD y = some (b2, ys.map g)) :
    ED K (tLZ K ta) ρ (.list ((xs.zip ys).map fun p => .tuple [f p.1, g p.2])) := by
  have e : (xs.zip ys).map (fun p => PyData.tuple [f p.1, g p.2]) = List.zipWith (fun x y => PyData.tuple [x, y]) (xs.map f) (ys.map g) := by
    rw [List.zipWith_map, List.zip_eq_zipWith, List.map_zipWith]
  rw [e]
  exact ed_lzip h h1 h2
/-- sorted, by the data of f -/
def sortBy {α : Type} (f : α → PyData) (xs : List α) : List α := xs.mergeSort fun a b => dle (f a) (f b)
theorem sortBy_map {α : Type} (f : α → PyData) (xs : List α) : (xs.map f).mergeSort dle = (sortBy f xs).map f := by
  unfold sortBy
  rw [List.map_mergeSort]
  intro a _ b _; rfl
theorem rc_sortm {α : Type} {f : α → PyData} {xs : List α} (hal : AllAlike (xs.map f)) (hso : Sortable (xs.map f)) (hdp : ∀ d ∈ xs.map f, d.depth ≤ 60) (hcl : PyData.canLayAll0 (xs.map f) = true) : RC K (rSortD K) [.list (xs.map f)] (.list ((sortBy f xs).map f)) := by
  rw [← sortBy_map]
  exact rc_sort hal hso hdp hcl
theorem rc_sortmX {α : Type} {f : α → PyData} {xs : List α} (hal : AllAlike (xs.map f)) (hso : Sortable (xs.map f) ∨ ((xs.map f).length < 2 ∧ ∀ d ∈ xs.map f, d ≠ .none)) (hdp : ∀ d ∈ xs.map f, d.depth ≤ 60) (hcl : PyData.canLayAll0 (xs.map f) = true) : RC K (rSortD K) [.list (xs.map f)] (.list ((sortBy f xs).map f)) := by
  rw [← sortBy_map]
  exact rc_sortX hal hso hdp hcl
theorem sortBy_perm {α : Type} (f : α → PyData) (xs : List α) : (sortBy f xs).Perm xs := List.mergeSort_perm _ _
end
section
variable {X : Cx} {x : Str} {ps : List Str} {k : Nat} {R : List PyData → Res → Prop} {e : Expr} {es : List Expr} {t : TA} {p pos : Pos} {P : Program} {w : World} {K : PySem.W.Frag} {mg : Str → Option Value} {base : Heap} {W : WX}
/-- f(e, ..) within a try -/
theorem pe_callT (h : DefOk P w K mg base x ps k R) (hr : Room k X.A) (hg : Gl X x) (tk : Takes X W) (ha : PA X (e :: es) t) (hX : X.prog = P ∧ X.w = w ∧ X.K = K ∧ X.mg = mg ∧ X.base = base := by exact ⟨rfl, rfl, rfl, rfl, rfl⟩) (hdb : (x == ("__debug__" : Str)) = false := by decide)
    (he : starEach (e :: es) X.env = (false, eval e X.env) :: starEach es X.env := by rfl) (hpl : (backTo pos (starEach es X.env)).any (·.1) = false := by rfl) : PE X (.Call (.Name x p) (e :: es) [] pos) (tCallS (spD K R) (WE W) t) := by
  obtain ⟨rfl, rfl, rfl, rfl, rfl⟩ := hX
  obtain ⟨f, fd, F, B, M, Kp⟩ := h.ex
  exact pe_callS F hr hg M Kp B (fun σ => passAt tk σ) ha hdb he hpl
/-- a whole number of the module -/
theorem pe_globI {n : Int} {mg : Str → Option Value} (hg : Gl X x) (h : ∃ t, mg x = some (.int n t)) (hX : X.mg = mg := by rfl) (hdb : (x == ("__debug__" : Str)) = false := by decide) : PE X (.Name x p) (tC (.int n)) := by
  subst hX
  obtain ⟨t, h⟩ := h
  exact ⟨fun pins s σ H Q I hq => ld_glob I hg h ⟨.int n, H, I, ⟨t, rfl⟩, hq⟩ hdb⟩
/-- a class as a value -/
theorem pe_cls {K : PySem.W.Frag} {mg : Str → Option Value} (A : XAt K mg x) (hg : Gl X x) (hX : X.K = K ∧ X.mg = mg := by exact ⟨rfl, rfl⟩) (hdb : (x == ("__debug__" : Str)) = false := by decide) : PE X (.Name x p) (tC (.ref A.C)) := by
  obtain ⟨rfl, rfl⟩ := hX
  exact ⟨fun pins s σ H Q I h => ld_glob I hg A.f.g ⟨.ref A.C, H, I, rfl, h⟩ hdb⟩
end
end D2
namespace D2
open PySem PySem.Spec PyProof.Rows L2
section
variable {K : PySem.W.Frag} {ρ : Sls K} {ta tb : TE}
theorem ed_neg {i : Int} (ha : ED K ta ρ (.int i)) : ED K (tUn (rU fun i => .int (-i)) ta) ρ (.int (-i)) := ed_un ha fun G H vx s hx Q q => by
  cases hx
  exact ⟨i, rfl, q _ G H (Grow.refl s) rfl⟩
/-- the last one: xs[-1] -/
theorem ed_ixTlast {α : Type} {f : α → PyData} {xs : List α} {i : Int} {x : α} (ha : ED K ta ρ (.tuple (xs.map f))) (hb : ED K tb ρ (.int i)) (h : i = -1 ∧ xs.getLast? = some x) : ED K (tOp (rIxT K) ta tb) ρ (f x) := by
  obtain ⟨rfl, h⟩ := h
  have hne : xs ≠ [] := fun e => by rw [e] at h; simp at h
  have hl : 0 < xs.length := List.length_pos_iff.mpr hne
  refine ed_ixT ha hb (j := xs.length - 1) ?_ ?_
  · unfold ixN
    rw [List.length_map, if_neg (by decide), if_pos (by omega)]
    congr 1; omega
  · rw [List.getElem?_map, ← List.getLast?_eq_getElem?, h]; rfl
theorem ed_ixLlast {α : Type} {f : α → PyData} {xs : List α} {i : Int} {x : α} (ha : ED K ta ρ (.list (xs.map f))) (hb : ED K tb ρ (.int i)) (h : i = -1 ∧ xs.getLast? = some x) : ED K (tOp (rIxL K) ta tb) ρ (f x) := by
  obtain ⟨rfl, h⟩ := h
  have hne : xs ≠ [] := fun e => by rw [e] at h; simp at h
  have hl : 0 < xs.length := List.length_pos_iff.mpr hne
  refine ed_ixL ha hb (j := xs.length - 1) ?_ ?_
  · unfold ixN
    rw [List.length_map, if_neg (by decide), if_pos (by omega)]
    congr 1; omega
  · rw [List.getElem?_map, ← List.getLast?_eq_getElem?, h]; rfl
end
end D2
namespace D2
open PySem PySem.Spec PyProof.Rows L2
/-- a turn of a loop that may answer -/
def turn {β : Type} (b : Bool) (d : PyData) (s : β) : Except PyData β := if b then .error d else .ok s
/-- what a loop that may answer answers -/
def ended {β : Type} (r : Except PyData β) (d : PyData) : PyData := match r with | .error e => e | .ok _ => d
section
variable {K : PySem.W.Frag} {E : XK} {ρ : Sls K} {tb : TS} {β : Type} {S : β → Sls K} {s' : β} {b : Bool} {d : PyData}
theorem turn_if (h1 : b = true → SD K E tb ρ (.rt d)) (h2 : b = false → (SD K E tb ρ (.nx (S s')) ∨ SD K E tb ρ (.ct (S s')))) :
    match turn b d s' with | .ok s' => (SD K E tb ρ (.nx (S s')) ∨ SD K E tb ρ (.ct (S s'))) | .error d => SD K E tb ρ (.rt d) := by
  unfold turn
  cases b with
  | true => exact h1 rfl
  | false => exact h2 rfl
end
end D2
namespace D2
open PySem PySem.Spec PyProof.Rows L2
section
variable {α : Type} (xs : List α)
theorem sIx_some {n d : Nat} {k : Int} (h : 0 ≤ k) : HT.sIx n d (some k) = min k.toNat n := by
  unfold HT.sIx
  simp [h]
  omega
theorem cutD_to {k : Int} (h : 0 ≤ k) : cutD xs none (some k) = xs.take k.toNat := by
  unfold cutD
  rw [sIx_some h]
  show (xs.drop 0).take (min k.toNat xs.length - 0) = _
  rw [List.drop_zero, Nat.sub_zero]
  rcases Nat.le_total k.toNat xs.length with hl | hl
  · rw [Nat.min_eq_left hl]
  · rw [Nat.min_eq_right hl, List.take_length, List.take_of_length_le hl]
theorem cutD_from {k : Int} (h : 0 ≤ k) : cutD xs (some k) none = xs.drop k.toNat := by
  unfold cutD
  rw [sIx_some h]
  show (xs.drop (min k.toNat xs.length)).take (xs.length - min k.toNat xs.length) = _
  rcases Nat.le_total k.toNat xs.length with hl | hl
  · rw [Nat.min_eq_left hl, List.take_of_length_le (by rw [List.length_drop]; exact Nat.le_refl _)]
  · rw [Nat.min_eq_right hl, List.drop_length, List.drop_of_length_le hl, List.take_nil]
theorem cutD_mid {i j : Int} (h : 0 ≤ i) (h' : 0 ≤ j) : cutD xs (some i) (some j) = (xs.take j.toNat).drop i.toNat := by
  unfold cutD
  rw [sIx_some h, sIx_some h', List.drop_take]
  rcases Nat.le_total i.toNat xs.length with hl | hl
  · rw [Nat.min_eq_left hl]
    rcases Nat.le_total j.toNat xs.length with hj | hj
    · rw [Nat.min_eq_left hj]
    · rw [Nat.min_eq_right hj, List.take_of_length_le (by rw [List.length_drop]; exact Nat.le_refl _), List.take_of_length_le (by rw [List.length_drop]; omega)]
  · rw [Nat.min_eq_right hl, List.drop_length, List.drop_of_length_le hl, List.take_nil, List.take_nil]
end
end D2
namespace D2
open PySem PySem.Spec PyProof.Rows L2
theorem rc_summ {K : PySem.W.Frag} {α : Type} {g : α → Int} {xs : List α} : RC K (rSum K) [.list (xs.map fun x => .int (g x))] (.int ((xs.map g).sum)) := by
  have h := rc_sum (K := K) (ns := xs.map g)
  rw [List.map_map] at h
  exact h
end D2
namespace D2
open PySem PySem.Spec PyProof.Rows L2
theorem rv_addI {K : PySem.W.Frag} {i j : Int} : RV K (rI0 fun i j => .int (i + j)) (.int i) (.int j) (.int (i + j)) := rv_I0 fun _ => rfl
theorem rv_subI {K : PySem.W.Frag} {i j : Int} : RV K (rI0 fun i j => .int (i - j)) (.int i) (.int j) (.int (i - j)) := rv_I0 fun _ => rfl
end D2
namespace D2
theorem cutD_init {α : Type} (xs : List α) : cutD xs none (some (-1)) = xs.dropLast := by
  unfold cutD
  show (xs.drop 0).take ((if (-1 : Int) < 0 then ((-1 : Int) + (xs.length : Int)).toNat else min (-1 : Int).toNat xs.length) - 0) = _
  rw [if_pos (by decide), List.drop_zero, Nat.sub_zero, List.dropLast_eq_take]
  congr 1; omega
end D2

set_option Elab.async false
set_option linter.all false
set_option maxRecDepth 100000
set_option maxHeartbeats 4000000
namespace D2
open PySem PySem.Spec PyProof.Rows L2
/-! ### a tuple of texts that the module keeps -/
structure TupFact (K : PySem.W.Frag) (mg : Str → Option Value) (x : Str) (ws : List Str) (a : Addr) : Prop where
  g : mg x = some (.ref a)
  sq : ∀ H, SqT K H a (ws.map V.str)
structure TupAt (K : PySem.W.Frag) (mg : Str → Option Value) (x : Str) (ws : List Str) : Prop where
  ex : ∃ a, TupFact K mg x ws a
noncomputable def TupAt.a {K : PySem.W.Frag} {mg : Str → Option Value} {x : Str} {ws : List Str} (h : TupAt K mg x ws) : Addr := Classical.choose h.ex
theorem TupAt.f {K : PySem.W.Frag} {mg : Str → Option Value} {x : Str} {ws : List Str} (h : TupAt K mg x ws) : TupFact K mg x ws h.a := Classical.choose_spec h.ex
theorem tup_at_mk {K : PySem.W.Frag} {mg : Str → Option Value} {x : Str} {ws : List Str} {a : Addr} {o : Obj} {its : Array Value} {n : Nat} (g : mg x = some (.ref a)) (l : K.lookup a = some o) (c : o.cls = .type "tuple") (d : o.data = .seq its n) (z : its.size ≤ sizeLine) (v : Vals (ws.map V.str) its.toList) : TupAt K mg x ws :=
  ⟨⟨a, g, fun H => .inr ⟨o, its, n, l, c, d, z, v⟩⟩⟩
section
variable {X : Cx} {x : Str} {ws : List Str} {p : Pos}
theorem pe_globT {K : PySem.W.Frag} {mg : Str → Option Value} (A : TupAt K mg x ws) (hg : Gl X x) (hX : X.K = K ∧ X.mg = mg := by exact ⟨rfl, rfl⟩) (hdb : (x == ("__debug__" : Str)) = false := by decide) : PE X (.Name x p) (tC (.ref A.a)) := by
  obtain ⟨rfl, rfl⟩ := hX
  exact ⟨fun pins s σ H Q I h => ld_glob I hg A.f.g ⟨.ref A.a, H, I, rfl, h⟩ hdb⟩
end
section
variable {K : PySem.W.Frag} {mg : Str → Option Value} {ρ : Sls K} {ta : TE} {x y : Str} {ws : List Str}
theorem ed_inG {n : Bool} (A : TupAt K mg y ws) (ha : ED K ta ρ (.str x)) : ED K (tOp (rIn K n) ta (tC (.ref A.a))) ρ (.bool (if n then !decide (x ∈ ws) else decide (x ∈ ws))) := fun H0 σ G H er s Q q =>
  ha H0 σ G H er s _ fun vx G1 H1 g1 r1 => by
    cases r1
    refine ⟨A.a, _, rfl, .inr (A.f.sq H1), rfl, all_flat (g := V.str) (fun _ => rfl) ws, ?_⟩
    rw [inV_str]
    exact q _ G1 H1 g1 rfl
end
end D2

set_option Elab.async false
set_option linter.all false
set_option maxRecDepth 100000
set_option maxHeartbeats 4000000
namespace D2
open PySem PySem.Spec PyProof.Rows L2
/-! ### parts: fields of an instance, items of a list; each data or a thing of our own -/
def CoP (K : PySem.W.Frag) (G H : Hp) : List (Sl K) → List V → List Addr → Prop
  | [], us, fp => us = [] ∧ fp = []
  | .un :: r, us, fp => ∃ v vs, us = v :: vs ∧ CoP K G H r vs fp
  | .da d :: r, us, fp => ∃ v vs, us = v :: vs ∧ Rp K G d v ∧ CoP K G H r vs fp
  | .ow A :: r, us, fp => ∃ v vs f1 f2, us = v :: vs ∧ fp = f1 ++ f2 ∧ A.P G H v f1 ∧ CoP K G H r vs f2 ∧ ∀ p ∈ f1, p ∉ f2
section
variable {K : PySem.W.Frag} {G G1 G2 H H1 H2 : Hp} {d : PyData}
theorem CoP.loc : ∀ {ss : List (Sl K)} {us : List V} {fp : List Addr}, CoP K G H ss us fp → Same G G2 → (∀ a ∈ fp, H2 a = H a) → CoP K G2 H2 ss us fp
  | [], _, _, h, _, _ => h
  | .un :: _, _, _, ⟨v, vs, e, h⟩, s, k => ⟨v, vs, e, h.loc s k⟩
  | .da _ :: _, _, _, ⟨v, vs, e, r, h⟩, s, k => ⟨v, vs, e, r.mono s, h.loc s k⟩
  | .ow A :: _, _, _, ⟨v, vs, f1, f2, e, e2, r, h, n⟩, s, k => ⟨v, vs, f1, f2, e, e2, A.loc r s fun a ha => k a (by rw [e2]; exact List.mem_append_left _ ha), h.loc s fun a ha => k a (by rw [e2]; exact List.mem_append_right _ ha), n⟩
theorem CoP.length : ∀ {ss : List (Sl K)} {us : List V} {fp : List Addr}, CoP K G H ss us fp → us.length = ss.length
  | [], _, _, h => by rw [h.1]; rfl
  | .un :: _, _, _, ⟨v, vs, e, h⟩ => by rw [e]; simp [h.length]
  | .da _ :: _, _, _, ⟨v, vs, e, r, h⟩ => by rw [e]; simp [h.length]
  | .ow A :: _, _, _, ⟨v, vs, f1, f2, e, e2, r, h, n⟩ => by rw [e]; simp [h.length]
theorem CoP.data : ∀ {ss : List (Sl K)} {us : List V} {fp : List Addr} {j : Nat}, CoP K G H ss us fp → ss[j]? = some (.da d) → ∃ v, us[j]? = some v ∧ Rp K G d v
  | [], _, _, _, _, q => by simp at q
  | .un :: _, _, _, 0, _, q => by simp at q
  | .da d' :: _, _, _, 0, ⟨v, vs, e, r, h⟩, q => by
    have : d' = d := by simpa using q
    subst this
    exact ⟨v, by rw [e]; rfl, r⟩
  | .ow A :: _, _, _, 0, _, q => by simp at q
  | .un :: _, _, _, j + 1, ⟨v, vs, e, h⟩, q => by rw [e]; exact h.data (j := j) (by simpa using q)
  | .da _ :: _, _, _, j + 1, ⟨v, vs, e, r, h⟩, q => by rw [e]; exact h.data (j := j) (by simpa using q)
  | .ow A :: _, _, _, j + 1, ⟨v, vs, f1, f2, e, e2, r, h, n⟩, q => by rw [e]; exact h.data (j := j) (by simpa using q)
/-- a part that is ours, and how it may change -/
theorem CoP.at_ {A : OwnA K} : ∀ {ss : List (Sl K)} {us : List V} {fp : List Addr} {j : Nat}, CoP K G H ss us fp → (∀ p ∈ fp, G p = none ∧ Mu H p) → ss[j]? = some (.ow A) →
    ∃ v f0, us[j]? = some v ∧ A.P G H v f0 ∧ (∀ p ∈ f0, p ∈ fp) ∧ ∀ (G2 H2 : Hp) (A' : OwnA K) (f' : List Addr), Grow G (minus H f0) G2 H2 → (∀ p ∈ f', G2 p = none ∧ Mu H2 p ∧ (p ∈ f0 ∨ H p = none)) → A'.P G2 H2 v f' →
      ∃ fp', CoP K G2 H2 (ss.set j (.ow A')) us fp' ∧ ∀ p ∈ fp', p ∈ f' ∨ (p ∈ fp ∧ p ∉ f0)
  | [], _, _, _, _, _, q => by simp at q
  | .un :: _, _, _, 0, _, _, q => by simp at q
  | .da _ :: _, _, _, 0, _, _, q => by simp at q
  | .ow A0 :: r, _, fp, 0, ⟨v, vs, f1, f2, e, e2, r1, h, n⟩, hf, q => by
    have : A0 = A := by simpa using q
    subst this
    refine ⟨v, f1, by rw [e]; rfl, r1, fun p hp => by rw [e2]; exact List.mem_append_left _ hp, fun G2 H2 A' f' g hf' hP => ?_⟩
    have nf : ∀ p ∈ f2, p ∉ f1 := fun p hp hq => n p hq hp
    have keep : ∀ p ∈ f2, H2 p = H p := fun p hp => by
      obtain ⟨o, z, _⟩ := (hf p (by rw [e2]; exact List.mem_append_right _ hp)).2
      rw [z]; exact minus_same g.hh (nf p hp) z
    refine ⟨f' ++ f2, ⟨v, vs, f', f2, e, rfl, hP, h.loc g.gg keep, fun p hp hq => ?_⟩, fun p hp => ?_⟩
    · rcases (hf' p hp).2.2 with z | z
      · exact n p z hq
      · exact (hf p (by rw [e2]; exact List.mem_append_right _ hq)).2.ne z
    · rcases List.mem_append.mp hp with z | z
      · exact .inl z
      · exact .inr ⟨by rw [e2]; exact List.mem_append_right _ z, nf p z⟩
  | .un :: r, _, fp, j + 1, ⟨v, vs, e, h⟩, hf, q => by
    obtain ⟨u, f0, a1, a2, a3, a4⟩ := h.at_ (A := A) (j := j) hf (by simpa using q)
    refine ⟨u, f0, by rw [e]; exact a1, a2, a3, fun G2 H2 A' f' g hf' hP => ?_⟩
    obtain ⟨fp', b1, b2⟩ := a4 G2 H2 A' f' g hf' hP
    exact ⟨fp', ⟨v, vs, e, b1⟩, b2⟩
  | .da d0 :: r, _, fp, j + 1, ⟨v, vs, e, rd, h⟩, hf, q => by
    obtain ⟨u, f0, a1, a2, a3, a4⟩ := h.at_ (A := A) (j := j) hf (by simpa using q)
    refine ⟨u, f0, by rw [e]; exact a1, a2, a3, fun G2 H2 A' f' g hf' hP => ?_⟩
    obtain ⟨fp', b1, b2⟩ := a4 G2 H2 A' f' g hf' hP
    exact ⟨fp', ⟨v, vs, e, rd.mono g.gg, b1⟩, b2⟩
  | .ow A0 :: r, _, fp, j + 1, ⟨v, vs, f1, f2, e, e2, r1, h, n⟩, hf, q => by
    have hf2 : ∀ p ∈ f2, G p = none ∧ Mu H p := fun p hp => hf p (by rw [e2]; exact List.mem_append_right _ hp)
    have hf1 : ∀ p ∈ f1, G p = none ∧ Mu H p := fun p hp => hf p (by rw [e2]; exact List.mem_append_left _ hp)
    obtain ⟨u, f0, a1, a2, a3, a4⟩ := h.at_ (A := A) (j := j) hf2 (by simpa using q)
    refine ⟨u, f0, by rw [e]; exact a1, a2, fun p hp => by rw [e2]; exact List.mem_append_right _ (a3 p hp), fun G2 H2 A' f' g hf' hP => ?_⟩
    obtain ⟨fp', b1, b2⟩ := a4 G2 H2 A' f' g hf' hP
    have nf : ∀ p ∈ f1, p ∉ f0 := fun p hp hq => n p hp (a3 p hq)
    have keep : ∀ p ∈ f1, H2 p = H p := fun p hp => by
      obtain ⟨o, z, _⟩ := (hf1 p hp).2
      rw [z]; exact minus_same g.hh (nf p hp) z
    refine ⟨f1 ++ fp', ⟨v, vs, f1, fp', e, rfl, A0.loc r1 g.gg keep, b1, fun p hp hq => ?_⟩, fun p hp => ?_⟩
    · rcases b2 p hq with z | ⟨z, _⟩
      · rcases (hf' p z).2.2 with y | y
        · exact nf p hp y
        · exact (hf1 p hp).2.ne y
      · exact n p hp z
    · rcases List.mem_append.mp hp with z | z
      · exact .inr ⟨by rw [e2]; exact List.mem_append_left _ z, nf p z⟩
      · rcases b2 p z with y | ⟨y, y2⟩
        · exact .inl y
        · exact .inr ⟨by rw [e2]; exact List.mem_append_right _ y, y2⟩
/-- behind the parts -/
theorem CoP.after (h : CoP K G H ss us fp) (hf : ∀ p ∈ fp, G p = none ∧ Mu H p) (g : Grow G H G2 H2) : CoP K G2 H2 ss us fp := h.loc g.gg fun p hp => by
  obtain ⟨o, z, _⟩ := (hf p hp).2
  rw [z]; exact g.hh p o z

/-! ### fields by name -/
def putS (f : Str) (s : Sl K) : List (Str × Sl K) → List (Str × Sl K)
  | [] => [(f, s)]
  | (g, x) :: r => if g = f then (g, s) :: r else (g, x) :: putS f s r
/-- what a value put into a part brings -/
def SlP (K : PySem.W.Frag) (G H : Hp) : Sl K → V → List Addr → Prop
  | .un, _, fp => fp = []
  | .da d, v, fp => Rp K G d v ∧ fp = []
  | .ow A, v, fp => A.P G H v fp
theorem co_cons {s : Sl K} {ss : List (Sl K)} {v : V} {vs : List V} {f1 f2 : List Addr} (h1 : SlP K G H s v f1) (h2 : CoP K G H ss vs f2) (n : ∀ p ∈ f1, p ∉ f2) : CoP K G H (s :: ss) (v :: vs) (f1 ++ f2) := by
  cases s with
  | un => cases h1; exact ⟨v, vs, rfl, h2⟩
  | da d => obtain ⟨h1, rfl⟩ := h1; exact ⟨v, vs, rfl, h1, h2⟩
  | ow A => exact ⟨v, vs, f1, f2, rfl, rfl, h1, h2, n⟩
theorem co_uncons {s : Sl K} {ss : List (Sl K)} {us : List V} {fp : List Addr} (h : CoP K G H (s :: ss) us fp) : ∃ v vs f1 f2, us = v :: vs ∧ fp = f1 ++ f2 ∧ SlP K G H s v f1 ∧ CoP K G H ss vs f2 ∧ ∀ p ∈ f1, p ∉ f2 := by
  cases s with
  | un => obtain ⟨v, vs, e, h⟩ := h; exact ⟨v, vs, [], fp, e, rfl, rfl, h, fun p hp => by simp at hp⟩
  | da d => obtain ⟨v, vs, e, r, h⟩ := h; exact ⟨v, vs, [], fp, e, rfl, ⟨r, rfl⟩, h, fun p hp => by simp at hp⟩
  | ow A => obtain ⟨v, vs, f1, f2, e, e2, r, h, n⟩ := h; exact ⟨v, vs, f1, f2, e, e2, r, h, n⟩
theorem SlP.loc {s : Sl K} {v : V} {fp : List Addr} (h : SlP K G H s v fp) (e : Same G G2) (k : ∀ a ∈ fp, H2 a = H a) : SlP K G2 H2 s v fp := by
  cases s with
  | un => exact h
  | da d => exact ⟨h.1.mono e, h.2⟩
  | ow A => exact A.loc h e k
/-- a field is put: old or new; fs the fields ahead, in the heap H; the others keep what they have -/
theorem co_put {f : Str} {s : Sl K} {v : V} {f1 : List Addr} : ∀ {fs : List (Str × Sl K)} {us : List V} {fp : List Addr}, CoP K G H (fs.map (·.2)) us fp → SlP K G H s v f1 → (∀ p ∈ f1, p ∉ fp) →
    ∃ us' fp', putF f v ((fs.map (·.1)).zip us) = ((putS f s fs).map (·.1)).zip us' ∧ CoP K G H ((putS f s fs).map (·.2)) us' fp' ∧ ∀ p ∈ fp', p ∈ f1 ∨ p ∈ fp
  | [], us, fp, h, hs, n => by
    obtain ⟨rfl, rfl⟩ := h
    exact ⟨[v], f1 ++ [], rfl, co_cons (ss := []) hs ⟨rfl, rfl⟩ (fun p hp => by simp), fun p hp => .inl (by simpa using hp)⟩
  | (g, x) :: fs, us, fp, h, hs, n => by
    obtain ⟨w, ws, a1, a2, rfl, rfl, h1, h2, h3⟩ := co_uncons h
    show ∃ us' fp', (if g = f then (g, v) :: (fs.map (·.1)).zip ws else (g, w) :: putF f v ((fs.map (·.1)).zip ws)) = _ ∧ _
    by_cases e : g = f
    · unfold putS
      rw [if_pos e, if_pos e]
      refine ⟨v :: ws, f1 ++ a2, rfl, co_cons hs h2 fun p hp hq => n p hp (List.mem_append_right _ hq), fun p hp => ?_⟩
      rcases List.mem_append.mp hp with z | z
      · exact .inl z
      · exact .inr (List.mem_append_right _ z)
    · obtain ⟨us', fp', b1, b2, b3⟩ := co_put (f := f) h2 hs fun p hp hq => n p hp (List.mem_append_right _ hq)
      unfold putS
      rw [if_neg e, if_neg e]
      refine ⟨w :: us', a1 ++ fp', by rw [b1]; rfl, co_cons h1 b2 fun p hp hq => ?_, fun p hp => ?_⟩
      · rcases b3 p hq with z | z
        · exact n p z (List.mem_append_left _ hp)
        · exact h3 p hp z
      · rcases List.mem_append.mp hp with z | z
        · exact .inr (List.mem_append_left _ z)
        · rcases b3 p z with y | y
          · exact .inl y
          · exact .inr (List.mem_append_right _ y)
theorem putS_len (f : Str) (s : Sl K) : ∀ fs : List (Str × Sl K), (putS f s fs).length ≤ fs.length + 1
  | [] => by simp [putS]
  | (g, x) :: fs => by
    unfold putS
    split
    · simp
    · simp; exact putS_len f s fs
theorem look_at {f : Str} {s : Sl K} : ∀ {fs : List (Str × Sl K)}, fs.lookup f = some s → ∃ j : Nat, (fs.map (·.2))[j]? = some s ∧ (∀ us : List V, us.length = fs.length → ((fs.map (·.1)).zip us).lookup f = us[j]?) ∧ (∀ s', (putS f s' fs).map (·.2) = (fs.map (·.2)).set j s' ∧ (putS f s' fs).map (·.1) = fs.map (·.1))
  | [], e => by simp at e
  | (g, x) :: fs, e => by
    rw [List.lookup_cons] at e
    by_cases hg : f = g
    · subst hg
      have hb : (f == f) = true := beq_self_eq_true f
      rw [hb] at e
      have : x = s := by simpa using e
      subst this
      refine ⟨0, rfl, fun us hl => ?_, fun s' => ?_⟩
      · cases us with
        | nil => simp at hl
        | cons u us =>
          rw [List.map_cons, List.zip_cons_cons, List.lookup_cons, hb]; rfl
      · unfold putS
        rw [if_pos rfl]
        exact ⟨rfl, rfl⟩
    · have hb : (f == g) = false := beq_eq_false_iff_ne.mpr hg
      rw [hb] at e
      obtain ⟨j, h1, h2, h3⟩ := look_at e
      refine ⟨j + 1, h1, fun us hl => ?_, fun s' => ?_⟩
      · cases us with
        | nil => simp at hl
        | cons u us =>
          rw [List.map_cons, List.zip_cons_cons, List.lookup_cons, hb]
          exact h2 us (by simpa using hl)
      · unfold putS
        rw [if_neg (fun z => hg z.symm)]
        exact ⟨by rw [List.map_cons, (h3 s').1]; rfl, by rw [List.map_cons, (h3 s').2]; rfl⟩
theorem look_noS {f : Str} {us : List V} : ∀ {fs : List (Str × Sl K)}, fs.lookup f = none → ∀ us : List V, ((fs.map (·.1)).zip us).lookup f = none
  | [], _, us => by simp
  | (g, x) :: fs, e, us => by
    rw [List.lookup_cons] at e
    cases us with
    | nil => simp
    | cons u us =>
      rw [List.map_cons, List.zip_cons_cons, List.lookup_cons]
      cases hb : (f == g) with
      | true => rw [hb] at e; cases e
      | false => rw [hb] at e; exact look_noS (us := us) e us
end
/-! ### instances and lists of our own things -/
/-- an instance of the class at C; ox: its address, where it is known -/
def insA (K : PySem.W.Frag) (ox : Option Addr) (C : Addr) (fs : List (Str × Sl K)) : OwnA K where
  P := fun G H v fp => ∃ x dx us f1, (∀ y, ox = some y → x = y) ∧ v = .ref x ∧ fp = x :: f1 ∧ x ∉ f1 ∧ H x = some (.ins C dx ((fs.map (·.1)).zip us)) ∧ CoP K G H (fs.map (·.2)) us f1
  loc := by
    intro G H G2 H2 v fp h s k
    obtain ⟨x, dx, us, f1, h0, h1, h2, h3, h4, h5⟩ := h
    exact ⟨x, dx, us, f1, h0, h1, h2, h3, (k x (by rw [h2]; simp)).trans h4, h5.loc s fun a ha => k a (by rw [h2]; simp [ha])⟩
def lsA (K : PySem.W.Frag) (ss : List (Sl K)) : OwnA K where
  P := fun G H v fp => ∃ x us f1, v = .ref x ∧ fp = x :: f1 ∧ x ∉ f1 ∧ H x = some (.lst us) ∧ ss.length ≤ LIM ∧ CoP K G H ss us f1
  loc := by
    intro G H G2 H2 v fp h s k
    obtain ⟨x, us, f1, h1, h2, h3, h4, h5, h6⟩ := h
    exact ⟨x, us, f1, h1, h2, h3, (k x (by rw [h2]; simp)).trans h4, h5, h6.loc s fun a ha => k a (by rw [h2]; simp [ha])⟩
section
variable {K : PySem.W.Frag} {G G1 G2 H H0 H1 H2 : Hp} {ρ : Sls K} {σ : L2.St}
/-- a place: what stands there, and how it may change -/
structure Foc (K : PySem.W.Frag) (H0 G H : Hp) (σ : L2.St) (v : V) (A : OwnA K) (fp : List Addr) (put : OwnA K → Sls K) : Prop where
  P : A.P G H v fp
  fr : ∀ p ∈ fp, G p = none ∧ H0 p = none ∧ Mu H p
  set : ∀ (G2 H2 : Hp) (A' : OwnA K) (fp' : List Addr), Grow G (minus H fp) G2 H2 → (∀ p ∈ fp', G2 p = none ∧ Mu H2 p ∧ (p ∈ fp ∨ H p = none)) → A'.P G2 H2 v fp' → FrOk K H0 G2 H2 (put A') σ
theorem grow_minus {fp : List Addr} (g : Grow G H G2 H2) (hf : ∀ p ∈ fp, G p = none ∧ Mu H p) : Grow G (minus H fp) G2 (minus H2 fp) := by
  refine ⟨g.gg, fun a o e => ?_, fun a o e => ?_, fun a h1 h2 => g.sep a h1 (h2.up Same.minus_le)⟩
  · by_cases h : a ∈ fp
    · rw [minus_in h] at e; cases e
    · rw [minus_out h] at e ⊢; exact g.hh a o e
  · by_cases h : a ∈ fp
    · rw [g.sep a (hf a h).1 (hf a h).2] at e; cases e
    · rw [minus_out h]; exact g.gh a o e
theorem Foc.grow {v : V} {A : OwnA K} {fp : List Addr} {put : OwnA K → Sls K} (h : Foc K H0 G H σ v A fp put) (g : Grow G H G2 H2) : Foc K H0 G2 H2 σ v A fp put := by
  have hf : ∀ p ∈ fp, G p = none ∧ Mu H p := fun p hp => ⟨(h.fr p hp).1, (h.fr p hp).2.2⟩
  refine ⟨A.loc h.P g.gg fun a ha => ?_, fun p hp => ⟨g.sep p (hf p hp).1 (hf p hp).2, (h.fr p hp).2.1, (hf p hp).2.up g.hh⟩, fun G3 H3 A' fp' g3 hf' hP => ?_⟩
  · obtain ⟨o, z, _⟩ := (hf a ha).2
    rw [z]; exact g.hh a o z
  · exact h.set G3 H3 A' fp' ((grow_minus g hf).trans g3) (fun p hp => ⟨(hf' p hp).1, (hf' p hp).2.1, (hf' p hp).2.2.imp id fun z => Same.back g.hh z⟩) hP
/-- e stands for a place that is ours; put: the slots when it has changed -/
def PL (K : PySem.W.Frag) (te : TE) (ρ : Sls K) (A : OwnA K) (put : OwnA K → Sls K) : Prop := ∀ H0 σ G H, FrOk K H0 G H ρ σ → Same H0 H → Same G H →
  ∃ v fp, Foc K H0 G H σ v A fp put ∧ ∀ G1 H1, Grow G H G1 H1 → ∀ Q : VK, (∀ G2 H2, Grow G1 H1 G2 H2 → Q v H2) → te σ H1 Q
theorem FrOk.base {H0' : Hp} (h : FrOk K H0 G H ρ σ) (e : ∀ p, H0 p = none → H0' p = none) : FrOk K H0' G H ρ σ := by
  obtain ⟨fps, h1, h2⟩ := h.own
  exact ⟨h.len, h.get, fps, fun i A q => let ⟨v, a, b, c⟩ := h1 i A q; ⟨v, a, b, fun p hp => ⟨(c p hp).1, e p (c p hp).2.1, (c p hp).2.2⟩⟩, h2⟩
def noH : Hp := fun _ => none
theorem FrOk.no (h : FrOk K H0 G H ρ σ) : FrOk K noH G H ρ σ := h.base fun _ _ => rfl
theorem no_same : Same noH H := fun _ _ e => by cases e
theorem pl_var {i : Nat} {A : OwnA K} (h : ρ[i]? = some (.ow A)) : PL K (tVar i) ρ A (fun A' => ρ.set i (.ow A')) := fun H0 σ G H f s0 s => by
  obtain ⟨v, fp, a1, a2, a3, k⟩ := f.own_at s0 h
  exact ⟨v, fp, ⟨a2, a3, k⟩, fun G1 H1 g Q q => ⟨v, a1, q G1 H1 (Grow.refl g.gh)⟩⟩
variable {ta tb te tv : TE} {C : Addr} {f : Str} {fs : List (Str × Sl K)} {ox : Option Addr} {put : OwnA K → Sls K} {d : PyData}
/-- from an instance to one of its fields that is ours -/
theorem Foc.fld {x : Addr} {A : OwnA K} {fp : List Addr} (F : Foc K H0 G H σ (.ref x) (insA K ox C fs) fp put) (hf : fs.lookup f = some (.ow A)) :
    ∃ v f0 dx us, H x = some (.ins C dx us) ∧ us.lookup f = some v ∧ (∀ p ∈ f0, p ∈ fp) ∧ x ∈ fp ∧ x ∉ f0 ∧ Foc K H0 G H σ v A f0 (fun A' => put (insA K ox C (putS f (.ow A') fs))) := by
  obtain ⟨y, dx, us, f1, h0, e1, e2, h3, h4, h5⟩ := F.P
  cases e1
  obtain ⟨j, j1, j2, j3⟩ := look_at hf
  have hf1 : ∀ p ∈ f1, G p = none ∧ Mu H p := fun p hp => ⟨(F.fr p (by rw [e2]; simp [hp])).1, (F.fr p (by rw [e2]; simp [hp])).2.2⟩
  obtain ⟨v, f0, a1, a2, a3, a4⟩ := h5.at_ hf1 j1
  have hl := h5.length
  rw [List.length_map] at hl
  have hx : x ∉ f0 := fun z => h3 (a3 x z)
  refine ⟨v, f0, dx, _, h4, by rw [j2 us hl]; exact a1, fun p hp => by rw [e2]; simp [a3 p hp], by rw [e2]; simp, hx, a2, fun p hp => F.fr p (by rw [e2]; simp [a3 p hp]), fun G2 H2 A' f' g hf' hP => ?_⟩
  obtain ⟨fp', b1, b2⟩ := a4 G2 H2 A' f' g hf' hP
  have hH2 : ∀ p ∈ fp, p ∉ f0 → H2 p = H p := fun p hp hn => by
    obtain ⟨o, z, _⟩ := (F.fr p hp).2.2
    rw [z]; exact minus_same g.hh hn z
  have xfp : x ∈ fp := by rw [e2]; simp
  have hxf : x ∉ fp' := fun z => by
    rcases b2 x z with y | ⟨y, _⟩
    · rcases (hf' x y).2.2 with w | w
      · exact hx w
      · exact (F.fr x xfp).2.2.ne w
    · exact h3 y
  have le : ∀ a, a ∈ f0 → a ∈ fp := fun a ha => by rw [e2]; simp [a3 a ha]
  have g' : Grow G (minus H fp) G2 H2 := by
    refine ⟨g.gg, fun a o e => ?_, g.gh, fun a z1 z2 => ?_⟩
    · by_cases ha : a ∈ fp
      · rw [minus_in ha] at e; cases e
      · rw [minus_out ha] at e
        exact minus_same g.hh (fun z => ha (le a z)) e
    · have ha : a ∉ fp := fun ha => z2.ne (minus_in ha)
      exact g.sep a z1 (z2.eq (by rw [minus_out ha, minus_out (fun z => ha (le a z))]))
  refine F.set G2 H2 _ (x :: fp') g' (fun p hp => ?_) ⟨x, dx, us, fp', h0, rfl, rfl, hxf, ?_, ?_⟩
  · rcases List.mem_cons.mp hp with rfl | hp
    · exact ⟨g.sep p (F.fr p xfp).1 ((F.fr p xfp).2.2.eq (minus_out hx)), (F.fr p xfp).2.2.eq (hH2 p xfp hx), .inl xfp⟩
    · rcases b2 p hp with y | ⟨y, y2⟩
      · exact ⟨(hf' p y).1, (hf' p y).2.1, (hf' p y).2.2.imp (le p) id⟩
      · have pf : p ∈ fp := by rw [e2]; simp [y]
        exact ⟨g.sep p (F.fr p pf).1 ((F.fr p pf).2.2.eq (minus_out y2)), (F.fr p pf).2.2.eq (hH2 p pf y2), .inl pf⟩
  · rw [(j3 _).2, hH2 x xfp hx]; exact h4
  · rw [(j3 _).1]; exact b1
/-- o.f, a field that is ours -/
theorem pl_fld {A : OwnA K} (h : PL K ta ρ (insA K ox C fs) put) (cl : Cls K C) (na : NoAttr K C f) (hf : fs.lookup f = some (.ow A)) : PL K (tFld K ta f) ρ A (fun A' => put (insA K ox C (putS f (.ow A') fs))) := fun H0 σ G H fr s0 s => by
  obtain ⟨u, fp, F, k⟩ := h H0 σ G H fr s0 s
  have hx : ∃ x, u = .ref x := by obtain ⟨x, _, _, _, _, e, _⟩ := F.P; exact ⟨x, e⟩
  obtain ⟨x, rfl⟩ := hx
  obtain ⟨v, f0, dx, us, h4, lk, le, xfp, hxf, F2⟩ := F.fld hf
  refine ⟨v, f0, F2, fun G1 H1 g1 Q q => k G1 H1 g1 _ fun G2 H2 g2 => ?_⟩
  exact ⟨x, C, dx, us, v, rfl, g2.hh _ _ (g1.hh _ _ h4), cl, na, lk, q G2 H2 g2⟩
/-- o.f, a field that is data -/
theorem ed_fldI (h : PL K ta ρ (insA K ox C fs) put) (cl : Cls K C) (na : NoAttr K C f) (hf : fs.lookup f = some (.da d)) : ED K (tFld K ta f) ρ d := fun H0 σ G H fr s Q q => by
  obtain ⟨u, fp, F, k⟩ := h noH σ G H fr.no no_same s
  refine k G H (Grow.refl s) _ fun G2 H2 g2 => ?_
  obtain ⟨x, dx, us, f1, h0, rfl, e2, h3, h4, h5⟩ := F.P
  obtain ⟨j, j1, j2, j3⟩ := look_at hf
  obtain ⟨v, hv, rv⟩ := h5.data j1
  have hl := h5.length
  rw [List.length_map] at hl
  exact ⟨x, C, dx, _, v, rfl, g2.hh _ _ h4, cl, na, by rw [j2 us hl]; exact hv, q v G2 H2 g2 (rv.mono g2.gg)⟩
end
end D2

set_option Elab.async false
set_option linter.all false
set_option maxRecDepth 100000
set_option maxHeartbeats 4000000
namespace D2
open PySem PySem.Spec PyProof.Rows L2
section
variable {K : PySem.W.Frag} {E : XK} {G G0 G1 G2 H H0 H1 H2 : Hp} {ρ ρ1 ρ2 : Sls K} {σ : L2.St} {ta tb te tv : TE} {t : TA} {C : Addr} {f : Str} {fs : List (Str × Sl K)} {ox : Option Addr} {put : OwnA K → Sls K} {d : PyData} {ds es : List PyData} {ss : List (Sl K)} {A A' : OwnA K}
/-! ### reading things of our own -/
theorem rd_ml (h : PL K te ρ (mlA K ds) put) (fr : FrOk K H0 G H ρ σ) (s : Same G H) : ∃ p vs, H p = some (.lst vs) ∧ ds.length ≤ LIM ∧ RpA K G ds vs ∧ ∀ Q : VK, (∀ G2 H2, Grow G H G2 H2 → Q (.ref p) H2) → te σ H Q := by
  obtain ⟨u, fp, F, k⟩ := h noH σ G H fr.no no_same s
  obtain ⟨p, vs, rfl, e2, h3, h4, h5⟩ := F.P
  exact ⟨p, vs, h3, h4, h5, k G H (Grow.refl s)⟩
/-- len(x), x a list of our own -/
theorem ed_lenO (h : PL K te ρ (mlA K ds) put) : ED K (tCB (fun xs H Q => ∃ p ys, xs = [.ref p] ∧ (SqL K H p ys ∨ SqT K H p ys) ∧ Q (.int ys.length) H) (tCons te tNil)) ρ (.int ds.length) := fun H0 σ G H fr s Q q => by
  obtain ⟨p, vs, h3, h4, h5, k⟩ := rd_ml h fr s
  refine k _ fun G2 H2 g2 => ⟨p, vs, rfl, .inl (SqL.of (g2.hh _ _ h3)), ?_⟩
  rw [h5.length]
  exact q _ G2 H2 g2 rfl
theorem ed_lenLs (h : PL K te ρ (lsA K ss) put) : ED K (tCB (fun xs H Q => ∃ p ys, xs = [.ref p] ∧ (SqL K H p ys ∨ SqT K H p ys) ∧ Q (.int ys.length) H) (tCons te tNil)) ρ (.int ss.length) := fun H0 σ G H fr s Q q => by
  obtain ⟨u, fp, F, k⟩ := h noH σ G H fr.no no_same s
  obtain ⟨p, vs, f1, rfl, e2, h3, h4, h5, h6⟩ := F.P
  refine k G H (Grow.refl s) _ fun G2 H2 g2 => ⟨p, vs, rfl, .inl (SqL.of (g2.hh _ _ h4)), ?_⟩
  rw [h6.length]
  exact q _ G2 H2 g2 rfl
theorem et_truO (h : PL K te ρ (mlA K ds) put) : ET K (fun σ H Q => te σ H fun x H' => ∃ k, TruV K x H' k ∧ Q k H') ρ (!ds.isEmpty) := fun H0 σ G H fr s Q q => by
  obtain ⟨p, vs, h3, h4, h5, k⟩ := rd_ml h fr s
  refine k _ fun G2 H2 g2 => ⟨_, .inl ⟨vs, SqL.of (g2.hh _ _ h3), rfl⟩, ?_⟩
  rw [len_nil h5.length]
  exact q H2 g2.hh
theorem ed_ixO {i : Int} (h : PL K ta ρ (mlA K ds) put) (hb : ED K tb ρ (.int i)) {j : Nat} (hj : ixN ds.length i = some j) (hd : ds[j]? = some d) : ED K (tOp (rIxL K) ta tb) ρ d := fun H0 σ G H fr s Q q => by
  obtain ⟨p, vs, h3, h4, h5, k⟩ := rd_ml h fr s
  refine k _ fun G2 H2 g2 => hb H0 σ G2 H2 (fr.grow g2) g2.gh _ fun y G3 H3 g3 ry => ?_
  cases ry
  obtain ⟨v, hv, rv⟩ := h5.get hd
  have g := g2.trans g3
  exact ⟨p, vs, i, v, rfl, rfl, SqL.of (g.hh _ _ h3), by unfold atI; rw [h5.length, hj]; exact hv, q _ G3 H3 g (rv.mono g.gg)⟩
/-- x[lo:hi], as data -/
theorem ed_slO {lo hi : Option Int} {tl th : TO} (h : PL K te ρ (mlA K ds) put) (h1 : EDO K tl ρ lo) (h2 : EDO K th ρ hi) : ED K (tSl (rSlL K) te tl th) ρ (.list (cutD ds lo hi)) := fun H0 σ G H fr s Q q => by
  obtain ⟨p, vs, r3, h4, r5, k⟩ := rd_ml h fr s
  refine k _ fun G2 H2 g => h1 H0 σ G2 H2 (fr.grow g) g.gh _ fun H3 e3 => h2 H0 σ G2 H3 ((fr.grow g).quiet g.gh e3) (g.gh.trans e3) _ fun H4 e4 => ?_
  have s4 : Same G2 H4 := (g.gh.trans e3).trans e4
  have gg := g.trans (Grow.quiet g.gh (e3.trans e4))
  exact ⟨p, vs, rfl, SqL.of (gg.hh _ _ r3), fun x hp => q _ _ _ (gg.trans (Grow.new s4 hp)) ⟨x, _, rfl, upd_same, Nat.le_trans (cut_len _ _ _) h4, (r5.mono g.gg).cut.mono (same_upd (Same.back s4 hp))⟩⟩
/-- x in l, x not in l: whole numbers -/
theorem ed_inO {x : Int} {xs : List Int} {n : Bool} (ha : ED K ta ρ (.int x)) (h : PL K tb ρ (mlA K (xs.map .int)) put) : ED K (tOp (rIn K n) ta tb) ρ (.bool (if n then !decide (x ∈ xs) else decide (x ∈ xs))) := fun H0 σ G H fr s Q q =>
  ha H0 σ G H fr s _ fun v G1 H1 g1 r1 => by
    cases r1
    obtain ⟨p, vs, h3, h4, h5, k⟩ := rd_ml h (fr.grow g1) g1.gh
    refine k _ fun G2 H2 g2 => ?_
    have := h5.ints
    subst this
    refine ⟨p, _, rfl, .inl (SqL.of (g2.hh _ _ h3)), rfl, all_flat (g := V.int) (fun _ => rfl) xs, ?_⟩
    rw [inV_int]
    exact q _ G2 H2 (g1.trans g2) rfl
/-! ### new things of our own -/
/-- e is a new thing of our own -/
def EO (K : PySem.W.Frag) (te : TE) (ρ : Sls K) (A : OwnA K) : Prop := ∀ H0 σ G H, FrOk K H0 G H ρ σ → Same G H → ∀ Q : VK, (∀ v G2 H2 fp, Grow G H G2 H2 → A.P G2 H2 v fp → (∀ p ∈ fp, H p = none ∧ G2 p = none ∧ Mu H2 p) → Q v H2) → te σ H Q
theorem eo_lst (h : EDA K t ρ ds) (hl : ds.length ≤ LIM := by first | decide | (simp only [List.length_cons, List.length_nil, List.length_map]; decide)) : EO K (tLst t) ρ (mlA K ds) := fun H0 σ G H fr s Q q =>
  h H0 σ G H fr s _ fun vs G2 H2 g2 r => ⟨by rw [r.length]; exact lim_le hl, fun p hp => by
    refine q _ G2 _ [p] (g2.trans (Grow.quiet g2.gh (same_upd hp))) ⟨p, vs, rfl, rfl, upd_same, hl, r⟩ fun a ha => ?_
    have : a = p := by simpa using ha
    subst this
    exact ⟨Same.back g2.hh hp, Same.back g2.gh hp, .of upd_same⟩⟩
theorem eo_slO {lo hi : Option Int} {tl th : TO} (h : PL K te ρ (mlA K ds) put) (h1 : EDO K tl ρ lo) (h2 : EDO K th ρ hi) : EO K (tSl (rSlL K) te tl th) ρ (mlA K (cutD ds lo hi)) := fun H0 σ G H fr s Q q => by
  obtain ⟨p, vs, r3, h4, r5, k⟩ := rd_ml h fr s
  refine k _ fun G2 H2 g => h1 H0 σ G2 H2 (fr.grow g) g.gh _ fun H3 e3 => h2 H0 σ G2 H3 ((fr.grow g).quiet g.gh e3) (g.gh.trans e3) _ fun H4 e4 => ?_
  have s4 : Same G2 H4 := (g.gh.trans e3).trans e4
  have gg := g.trans (Grow.quiet g.gh (e3.trans e4))
  refine ⟨p, vs, rfl, SqL.of (gg.hh _ _ r3), fun x hp => q _ G2 _ [x] (gg.trans (Grow.quiet gg.gh (same_upd hp))) ⟨x, _, rfl, rfl, upd_same, Nat.le_trans (cut_len _ _ _) h4, (r5.mono g.gg).cut⟩ fun a ha => ?_⟩
  have : a = x := by simpa using ha
  subst this
  exact ⟨Same.back gg.hh hp, Same.back s4 hp, .of upd_same⟩
theorem EO.to (h : EO K te ρ A) (e : A = A') : EO K te ρ A' := e ▸ h
theorem PL.to (h : PL K te ρ A put) (e : A = A') : PL K te ρ A' put := e ▸ h
/-! ### fields stored -/
/-- what a value brings to a part -/
def EV (K : PySem.W.Frag) (te : TE) (ρ : Sls K) (s : Sl K) : Prop := ∀ H0 σ G H, FrOk K H0 G H ρ σ → Same G H → ∀ Q : VK, (∀ v G2 H2 fp, Grow G H G2 H2 → SlP K G2 H2 s v fp → (∀ p ∈ fp, H p = none ∧ G2 p = none ∧ Mu H2 p) → Q v H2) → te σ H Q
theorem ev_da (h : ED K te ρ d) : EV K te ρ (.da d) := fun H0 σ G H fr s Q q => h H0 σ G H fr s _ fun v G2 H2 g r => q v G2 H2 [] g ⟨r, rfl⟩ fun p hp => by simp at hp
theorem ev_ow (h : EO K te ρ A) : EV K te ρ (.ow A) := fun H0 σ G H fr s Q q => h H0 σ G H fr s _ fun v G2 H2 fp g r hf => q v G2 H2 fp g r hf
/-- o.f = e -/
theorem sd_sfld {s : Sl K} (h : PL K ta ρ (insA K ox C fs) put) (cl : Cls K C) (na : NoAttr K C f) (hv : EV K tv ρ s) (hl : fs.length < 1000 := by decide) : SD K E (sFld K ta tv f) ρ (.nx (put (insA K ox C (putS f s fs)))) := fun G0 H0 D σ G H g fr q => by
  obtain ⟨u, fp, F, k⟩ := h H0 σ G H fr g.hh g.gh
  refine hv H0 σ G H fr g.gh _ fun y G1 H1 fn g1 hy hfn => k G1 H1 g1 _ fun G2 H2 g2 => ?_
  have F2 := F.grow (g1.trans g2)
  obtain ⟨x, dx, us, f1, h0, rfl, e2, h3, h4, h5⟩ := F2.P
  have xfp : x ∈ fp := by rw [e2]; simp
  have hx := F2.fr x xfp
  have hul := h5.length
  rw [List.length_map] at hul
  refine ⟨x, C, dx, _, rfl, h4, cl, na, by rw [List.length_zip, List.length_map, hul]; omega, ?_⟩
  have g12 := g1.trans g2
  have fnew : ∀ p ∈ fn, p ∉ fp := fun p hp hq => (F.fr p hq).2.2.ne (hfn p hp).1
  have hy2 : SlP K G2 H2 s y fn := hy.loc g2.gg fun a ha => by
    obtain ⟨o, z, _⟩ := (hfn a ha).2.2
    rw [z]; exact g2.hh a o z
  -- the heap with the field stored
  have g3 : ∀ o, Grow G (minus H fp) G2 (upd H2 x o) := fun o => by
    refine ⟨g12.gg, fun a ob e => ?_, fun a ob e => by rw [upd_ne (ne_of_none e hx.1)]; exact g12.gh a ob e, fun a z1 z2 => g12.sep a z1 (z2.up Same.minus_le)⟩
    have ha : a ∉ fp := fun ha => by rw [minus_in ha] at e; cases e
    rw [minus_out ha] at e
    rw [upd_ne (fun z => ha (by rw [z]; exact xfp))]
    exact g12.hh a ob e
  have keep : ∀ o, ∀ p ∈ f1, (upd H2 x o) p = H2 p := fun o p hp => upd_ne fun z => h3 (by rw [← z]; exact hp)
  have keepn : ∀ o, ∀ p ∈ fn, (upd H2 x o) p = H2 p := fun o p hp => upd_ne fun z => fnew p hp (by rw [z]; exact xfp)
  obtain ⟨us', fp', b1, b2, b3⟩ := co_put (f := f) (G := G2) (H := upd H2 x (.ins C dx (putF f y ((fs.map (·.1)).zip us)))) (h5.loc (Same.refl G2) (keep _)) (hy2.loc (Same.refl G2) (keepn _)) fun p hp hq => fnew p hp (by rw [e2]; simp [hq])
  refine q σ G2 _ (g.over ((g3 _)) fun a ha => (F.fr a ha).2.1) g12.gg (F.set G2 _ _ (x :: fp') (g3 _) (fun p hp => ?_) ⟨x, dx, us', fp', h0, rfl, rfl, fun z => ?_, by rw [upd_same, b1], b2⟩)
  · rcases List.mem_cons.mp hp with rfl | hp
    · exact ⟨hx.1, .of upd_same, .inl xfp⟩
    · rcases b3 p hp with z | z
      · exact ⟨g2.sep p (hfn p z).2.1 (hfn p z).2.2, ((hfn p z).2.2.up g2.hh).eq (keepn _ p z), .inr (hfn p z).1⟩
      · have pf : p ∈ fp := by rw [e2]; simp [z]
        exact ⟨(F2.fr p pf).1, (F2.fr p pf).2.2.eq (keep _ p z), .inl pf⟩
  · rcases b3 x z with y | y
    · exact fnew x y xfp
    · exact h3 y
/-! ### lists of our own in places -/
theorem grow_upd {fp : List Addr} {p : Addr} {o : HO} (g : Grow G H G2 H2) (hf : ∀ a ∈ fp, G2 a = none) (hp : p ∈ fp) : Grow G (minus H fp) G2 (upd H2 p o) := by
  refine ⟨g.gg, fun a ob e => ?_, fun a ob e => by rw [upd_ne (ne_of_none e (hf p hp))]; exact g.gh a ob e, fun a z1 z2 => g.sep a z1 (z2.up Same.minus_le)⟩
  have ha : a ∉ fp := fun ha => by rw [minus_in ha] at e; cases e
  rw [minus_out ha] at e
  rw [upd_ne (fun z => ha (by rw [z]; exact hp))]
  exact g.hh a ob e
/-- x.append(e) -/
theorem sd_appendP (h : PL K te ρ (mlA K ds) put) (hv : ED K tv ρ d) (hl : ds.length + 1 ≤ LIM) : SD K E (tDrop (tBM K "list" rAppend te (tCons tv tNil))) ρ (.nx (put (mlA K (ds ++ [d])))) := fun G0 H0 D σ G H g fr q => by
  obtain ⟨u, fp, F, k⟩ := h H0 σ G H fr g.hh g.gh
  refine k G H (Grow.refl g.gh) _ fun G1 H1 g1 => ?_
  have F1 := F.grow g1
  obtain ⟨p, vs, rfl, e2, h3, h4, h5⟩ := F1.P
  refine ⟨.inl ⟨rfl, _, SqL.of h3⟩, hv H0 σ G1 H1 (fr.grow g1) g1.gh _ fun v G2 H2 g2 r => ?_⟩
  have g12 := g1.trans g2
  have hp := F1.fr p (by rw [e2]; simp)
  refine ⟨p, vs, v, rfl, rfl, g2.hh _ _ h3, ?_, ?_⟩
  · rw [h5.length]; exact lim_lt (by omega)
  have hf2 : ∀ a ∈ fp, G2 a = none := fun a ha => ((F.grow g12).fr a ha).1
  have g3 := grow_upd (o := .lst (vs ++ [v])) g12 hf2 (p := p) (by rw [e2]; simp)
  refine q σ G2 _ (g.over g3 fun a ha => (F.fr a ha).2.1) g12.gg (F.set G2 _ _ [p] g3 (fun a ha => ?_) ⟨p, _, rfl, rfl, upd_same, by rw [List.length_append]; simpa using hl, (h5.mono g2.gg).snoc r⟩)
  have : a = p := by simpa using ha
  subst this
  exact ⟨hf2 a (by rw [e2]; simp), .of upd_same, .inl (by rw [e2]; simp)⟩
/-- x.extend(e) -/
theorem sd_extendP (h : PL K te ρ (mlA K ds) put) (hv : ED K tv ρ (.list es)) (hl : (ds ++ es).length ≤ LIM) : SD K E (tDrop (tBM K "list" rExtend te (tCons tv tNil))) ρ (.nx (put (mlA K (ds ++ es)))) := fun G0 H0 D σ G H g fr q => by
  obtain ⟨u, fp, F, k⟩ := h H0 σ G H fr g.hh g.gh
  refine k G H (Grow.refl g.gh) _ fun G1 H1 g1 => ?_
  have F1 := F.grow g1
  obtain ⟨p, vs, rfl, e2, h3, h4, h5⟩ := F1.P
  refine ⟨.inl ⟨rfl, _, SqL.of h3⟩, hv H0 σ G1 H1 (fr.grow g1) g1.gh _ fun v G2 H2 g2 r => ?_⟩
  obtain ⟨b, zs, rfl, r2, r3, r4⟩ := r
  have g12 := g1.trans g2
  have hp := F1.fr p (by rw [e2]; simp)
  refine ⟨p, b, vs, zs, rfl, rfl, g2.hh _ _ h3, g2.gh _ _ r2, ?_, ?_⟩
  · rw [h5.length, r4.length, ← List.length_append]; exact lim_le hl
  have hf2 : ∀ a ∈ fp, G2 a = none := fun a ha => ((F.grow g12).fr a ha).1
  have g3 := grow_upd (o := .lst (vs ++ zs)) g12 hf2 (p := p) (by rw [e2]; simp)
  refine q σ G2 _ (g.over g3 fun a ha => (F.fr a ha).2.1) g12.gg (F.set G2 _ _ [p] g3 (fun a ha => ?_) ⟨p, _, rfl, rfl, upd_same, hl, (h5.mono g2.gg).append r4⟩)
  have : a = p := by simpa using ha
  subst this
  exact ⟨hf2 a (by rw [e2]; simp), .of upd_same, .inl (by rw [e2]; simp)⟩
/-! ### from here on as it is -/
def over (G H : Hp) (fp : List Addr) : Hp := fun a => if a ∈ fp then H a else G a
theorem over_in {fp : List Addr} {a : Addr} (h : a ∈ fp) : over G H fp a = H a := by unfold over; rw [if_pos h]
theorem over_out {fp : List Addr} {a : Addr} (h : a ∉ fp) : over G H fp a = G a := by unfold over; rw [if_neg h]
theorem over_gg {fp : List Addr} (h : ∀ p ∈ fp, G p = none) : Same G (over G H fp) := fun a o e => by
  by_cases ha : a ∈ fp
  · rw [h a ha] at e; cases e
  · rw [over_out ha]; exact e
theorem over_gh {fp : List Addr} (s : Same G H) : Same (over G H fp) H := fun a o e => by
  by_cases ha : a ∈ fp
  · rw [over_in ha] at e; exact e
  · rw [over_out ha] at e; exact s a o e
theorem over_le {f1 fp : List Addr} (h : ∀ p ∈ fp, G p = none) (le : ∀ p ∈ f1, p ∈ fp) : Same (over G H f1) (over G H fp) := fun a o e => by
  by_cases ha : a ∈ f1
  · rw [over_in ha] at e; rw [over_in (le a ha)]; exact e
  · rw [over_out ha] at e
    by_cases hb : a ∈ fp
    · rw [h a hb] at e; cases e
    · rw [over_out hb]; exact e
/-- a thing of our own is data d when it changes no more -/
def Frz (K : PySem.W.Frag) (A : OwnA K) (d : PyData) : Prop := ∀ G H v fp, A.P G H v fp → (∀ p ∈ fp, G p = none) → Rp K (over G H fp) d v
theorem frz_ml : Frz K (mlA K ds) (.list ds) := fun G H v fp ⟨p, vs, h1, h2, h3, h4, h5⟩ hf => ⟨p, vs, h1, by rw [over_in (by rw [h2]; simp)]; exact h3, h4, h5.mono (over_gg hf)⟩
/-- parts that are data when they change no more -/
inductive FrzS (K : PySem.W.Frag) : List (Sl K) → List PyData → Prop
  | nil : FrzS K [] []
  | da {d : PyData} {r : List (Sl K)} {ds : List PyData} : FrzS K r ds → FrzS K (.da d :: r) (d :: ds)
  | ow {A : OwnA K} {d : PyData} {r : List (Sl K)} {ds : List PyData} : Frz K A d → FrzS K r ds → FrzS K (.ow A :: r) (d :: ds)
theorem frz_parts : ∀ {ss : List (Sl K)} {ds : List PyData} {us : List V} {fp f1 : List Addr}, FrzS K ss ds → CoP K G H ss us f1 → (∀ p ∈ fp, G p = none) → (∀ p ∈ f1, p ∈ fp) → RpA K (over G H fp) ds us
  | _, _, _, _, _, .nil, h, _, _ => h.1
  | _, _, _, _, _, .da z, ⟨v, vs, e, r, h⟩, hf, le => ⟨v, vs, e, r.mono (over_gg hf), frz_parts z h hf le⟩
  | _, _, _, fp, _, .ow a z, ⟨v, vs, f1, f2, e, e2, r, h, n⟩, hf, le =>
    ⟨v, vs, e, (a _ _ _ _ r fun p hp => hf p (le p (by rw [e2]; simp [hp]))).mono (over_le hf fun p hp => le p (by rw [e2]; simp [hp])), frz_parts z h hf fun p hp => le p (by rw [e2]; simp [hp])⟩
theorem frz_ls (h : FrzS K ss ds) : Frz K (lsA K ss) (.list ds) := fun G H v fp ⟨x, us, f1, h1, h2, h3, h4, h5, h6⟩ hf => by
  have r := frz_parts (fp := fp) h h6 hf fun p hp => by rw [h2]; simp [hp]
  refine ⟨x, us, h1, by rw [over_in (by rw [h2]; simp)]; exact h4, ?_, r⟩
  rw [← r.length, h6.length]; exact h5
theorem frz_ins {c : Str} (hc : ClsAt K c C) (h : FrzS K (fs.map (·.2)) ds) (n : ds.length = fs.length := by rfl) : Frz K (insA K ox C fs) (obD c ((fs.map (·.1)).zip ds)) := fun G H v fp ⟨x, dx, us, f1, h0, h1, h2, h3, h4, h5⟩ hf => by
  have r := frz_parts (fp := fp) h h5 hf fun p hp => by rw [h2]; simp [hp]
  have e1 : ((fs.map (·.1)).zip ds).map (·.1) = fs.map (·.1) := by rw [List.map_fst_zip]; simp [n]
  have e2 : ((fs.map (·.1)).zip ds).map (·.2) = ds := by rw [List.map_snd_zip]; simp [n]
  exact Rp.ob.mpr ⟨x, C, dx, us, h1, by rw [e2]; exact r, hc, by rw [over_in (by rw [h2]; simp), e1]; exact h4⟩
theorem sd_freezeA {t : TS} {o : Out K} (i : Nat) (hx : ρ[i]? = some (.ow A)) (hz : Frz K A d) (h : SD K E t (ρ.set i (.da d)) o) : SD K E t ρ o := fun G0 H0 D σ G H g f q => by
  obtain ⟨v, fp, a1, a2, a3, k⟩ := f.frz (d := d) hx
  have hf : ∀ p ∈ fp, G p = none := fun p hp => (a3 p hp).1
  have s1 := over_gg (H := H) hf
  have s2 := over_gh (fp := fp) g.gh
  have g2 : Grow G0 H0 (over G H fp) H := ⟨g.gg.trans s1, g.hh, s2, fun a z1 z2 => by rw [over_out (fun ha => z2.ne (a3 a ha).2.1)]; exact g.sep a z1 z2⟩
  exact h G0 H0 D σ _ H g2 (k _ H s1 s2 (fun a ha => over_out ha) (fun _ _ => rfl) (hz G H v fp a2 hf)) (q.later s1)
theorem ed_ofEO (h : EO K te ρ A) (hz : Frz K A d) : ED K te ρ d := fun H0 σ G H fr s Q q => h H0 σ G H fr s _ fun v G2 H2 fp g2 r hf => by
  have hf2 : ∀ p ∈ fp, G2 p = none := fun p hp => (hf p hp).2.1
  refine q v (over G2 H2 fp) H2 ⟨g2.gg.trans (over_gg hf2), g2.hh, over_gh g2.gh, fun a z1 z2 => ?_⟩ (hz G2 H2 v fp r hf2)
  rw [over_out (fun ha => z2.ne (hf a ha).1)]
  exact g2.sep a z1 z2
/-- x = a new thing of our own -/
theorem sd_setO {i : Nat} (h : EO K te ρ A) : SD K E (tAsg te (gName i)) ρ (.nx (ρ.set i (.ow A))) := fun G0 H0 D σ G H g f q =>
  h H0 σ G H f g.gh _ fun v G2 H2 fp g2 r hf => q _ G2 H2 (g.trans g2) g2.gg (f.put g.hh g2 hf r)
end
end D2

set_option Elab.async false
set_option linter.all false
set_option maxRecDepth 100000
set_option maxHeartbeats 4000000
namespace D2
open PySem PySem.Spec PyProof.Rows L2
section
variable {K : PySem.W.Frag} {E : XK} {G G0 G1 G2 H H0 H1 H2 : Hp} {ρ ρ1 ρ2 ρ' : Sls K} {σ : L2.St} {ta tb te tv : TE} {t : TA} {C : Addr} {f m : Str} {fs fs' : List (Str × Sl K)} {ox : Option Addr} {put : OwnA K → Sls K} {d r : PyData} {ds es : List PyData} {ss : List (Sl K)} {A A' : OwnA K}
/-! ### an expression that changes what is ours -/
def EE (K : PySem.W.Frag) (te : TE) (ρ : Sls K) (d : PyData) (ρ' : Sls K) : Prop := ∀ G0 H0 σ G H, Grow G0 H0 G H → FrOk K H0 G H ρ σ → ∀ Q : VK, (∀ v G2 H2, Grow G0 H0 G2 H2 → Same G G2 → FrOk K H0 G2 H2 ρ' σ → Rp K G2 d v → Q v H2) → te σ H Q
theorem ee_of (h : ED K te ρ d) : EE K te ρ d ρ := fun G0 H0 σ G H g f Q q => h H0 σ G H f g.gh _ fun v G2 H2 g2 r => q v G2 H2 (g.trans g2) g2.gg (f.grow g2) r
theorem EE.to {e : PyData} (h : EE K te ρ d ρ') (z : d = e) : EE K te ρ e ρ' := z ▸ h
theorem sd_setE {i : Nat} (h : EE K te ρ d ρ') : SD K E (tAsg te (gName i)) ρ (.nx (ρ'.set i (.da d))) := fun G0 H0 D σ G H g f q =>
  h G0 H0 σ G H g f _ fun v G2 H2 g2 s2 f2 r => q _ G2 H2 g2 s2 (f2.set i r)
theorem sd_dropE (h : EE K te ρ d ρ') : SD K E (tDrop te) ρ (.nx ρ') := fun G0 H0 D σ G H g f q =>
  h G0 H0 σ G H g f _ fun v G2 H2 g2 s2 f2 r => q σ G2 H2 g2 s2 f2
theorem sd_rets (h : EE K te ρ d ρ') : SD K E (tRet te) ρ (.rs d ρ') := fun G0 H0 D σ G H g f q =>
  h G0 H0 σ G H g f _ fun v G2 H2 g2 s2 f2 r => q v σ G2 H2 g2 f2 r
theorem sd_rets_seq {u : TS} (h : EE K te ρ d ρ') : SD K E (tSeq (tRet te) u) ρ (.rs d ρ') := fun G0 H0 D σ G H g f q =>
  h G0 H0 σ G H g f _ fun v G2 H2 g2 s2 f2 r => q v σ G2 H2 g2 f2 r
theorem sd_retNs : SD K E tRetN ρ (.rs .none ρ) := fun G0 H0 D σ G H g f q => q _ σ G H g f rfl
theorem sd_retNs_seq {u : TS} : SD K E (tSeq tRetN u) ρ (.rs .none ρ) := fun G0 H0 D σ G H g f q => q _ σ G H g f rfl
/-- a + b, lists; b changes what is ours -/
theorem ee_cat (ha : ED K ta ρ (.list ds)) (hb : EE K tb ρ (.list es) ρ') (hl : (ds ++ es).length ≤ LIM) : EE K (tOp rCat ta tb) ρ (.list (ds ++ es)) ρ' := fun G0 H0 σ G H g f Q q =>
  ha H0 σ G H f g.gh _ fun x G1 H1 g1 rx => hb G0 H0 σ G1 H1 (g.trans g1) (f.grow g1) _ fun y G2 H2 g2 s2 f2 ry => by
    obtain ⟨a, xs, rfl, a2, a3, a4⟩ := rx.mono s2
    obtain ⟨b, ys, rfl, b2, b3, b4⟩ := ry
    refine ⟨a, b, xs, ys, rfl, rfl, g2.gh _ _ a2, g2.gh _ _ b2, ?_, fun p hp => ?_⟩
    · rw [a4.length, b4.length, ← List.length_append]; exact lim_le hl
    have gn := Grow.new (o := .lst (xs ++ ys)) g2.gh hp
    exact q _ _ _ (g2.trans gn) ((g1.gg.trans s2).trans gn.gg) (f2.grow gn) ⟨p, _, rfl, upd_same, hl, (a4.append b4).mono (same_upd (Same.back g2.gh hp))⟩
/-! ### methods -/
abbrev MRel (K : PySem.W.Frag) := List (Str × Sl K) → List PyData → PyData → List (Str × Sl K) → Prop
/-- the promise of a method: R tells fields, arguments, answer, fields behind -/
def spM (K : PySem.W.Frag) (C : Addr) (R : MRel K) : Sp := fun vs H Q E => ∃ x rest fs ds r fs' G fp, vs = .ref x :: rest ∧ Same G H ∧ (insA K (some x) C fs).P G H (.ref x) fp ∧ (∀ p ∈ fp, G p = none ∧ Mu H p) ∧ RpA K G ds rest ∧ R fs ds r fs' ∧
  ∀ u G2 H2 fp', Grow G (minus H fp) G2 H2 → (∀ p ∈ fp', G2 p = none ∧ Mu H2 p ∧ (p ∈ fp ∨ H p = none)) → (insA K (some x) C fs').P G2 H2 (.ref x) fp' → Rp K G2 r u → Q u H2
theorem ins_some {x : Addr} {fp : List Addr} (h : (insA K ox C fs).P G H (.ref x) fp) : (insA K (some x) C fs).P G H (.ref x) fp := by
  obtain ⟨y, dx, us, f1, h0, h1, h2⟩ := h
  cases h1
  exact ⟨x, dx, us, f1, fun y e => Option.some.inj e, rfl, h2⟩
theorem ins_back {x : Addr} {fp fp2 : List Addr} (h0 : (insA K ox C fs).P G H (.ref x) fp) (h : (insA K (some x) C fs').P G2 H2 (.ref x) fp2) : (insA K ox C fs').P G2 H2 (.ref x) fp2 := by
  obtain ⟨y, _, _, _, e0, e1, _⟩ := h0
  cases e1
  obtain ⟨y, dx, us, f1, _, h1, h2⟩ := h
  cases h1
  exact ⟨_, dx, us, f1, e0, rfl, h2⟩
/-- o.m(e, ..) of an instance that is ours -/
theorem ee_meth {R : MRel K} (h : PL K ta ρ (insA K ox C fs) put) (hm : fs.lookup m = none) (ha : EDA K t ρ ds) (hr : R fs ds r fs') : EE K (tMeth C m (spM K C R) [] E ta t) ρ r (put (insA K ox C fs')) := fun G0 H0 σ G H g fr Q q => by
  obtain ⟨u, fp, F, k⟩ := h H0 σ G H fr g.hh g.gh
  refine k G H (Grow.refl g.gh) _ fun G1 H1 g1 => ?_
  have F1 := F.grow g1
  have hx : ∃ x, u = .ref x := by obtain ⟨x, _, _, _, _, e, _⟩ := F.P; exact ⟨x, e⟩
  obtain ⟨x, rfl⟩ := hx
  have hP := F1.P
  obtain ⟨y, dx, us, f1, h0, e1, e2, h3, h4, h5⟩ := hP
  cases e1
  refine ⟨x, dx, _, rfl, h4, look_noS (us := us) hm us, ha H0 σ G1 H1 (fr.grow g1) g1.gh _ fun vs G2 H2 g2 rv => ?_⟩
  have F2 := F1.grow g2
  have g12 := g1.trans g2
  refine ⟨x, vs ++ [], fs, ds, r, fs', G2, fp, rfl, g12.gh, ins_some F2.P, fun p hp => ⟨(F2.fr p hp).1, (F2.fr p hp).2.2⟩, by rw [List.append_nil]; exact rv, hr, fun u G3 H3 fp' g3 hf hP' ru => ?_⟩
  exact q u G3 H3 ((g.trans g12).over g3 fun a ha => (F.fr a ha).2.1) (g12.gg.trans g3.gg) (F2.set G3 H3 _ fp' g3 hf (ins_back F2.P hP')) ru
/-- C(e, ..) -/
theorem eo_make {R : MRel K} (ha : EDA K t ρ ds) (hr : R [] ds .none fs') : EO K (tMake C (spM K C R) [] E t) ρ (insA K none C fs') := fun H0 σ G H fr s Q q =>
  ha H0 σ G H fr s _ fun vs G1 H1 g1 rv x dx hx hdx hne => by
    have hx' : (upd (upd H1 dx (.own x)) x (HO.ins C dx [])) x = some (.ins C dx []) := upd_same
    have s1 : Same H1 (upd (upd H1 dx (.own x)) x (.ins C dx [])) := (same_upd hdx).trans (same_upd (by rw [upd_ne (Ne.symm hne)]; exact hx))
    have gx : G1 x = none := Same.back g1.gh hx
    refine ⟨x, vs ++ [], [], ds, .none, fs', G1, [x], rfl, g1.gh.trans s1, ⟨x, dx, [], [], fun y e => Option.some.inj e, rfl, rfl, by simp, hx', rfl, rfl⟩, fun p hp => ?_, by rw [List.append_nil]; exact rv, hr, fun u G2 H2 fp' g2 hf hP ru => ?_⟩
    · have : p = x := by simpa using hp
      subst this
      exact ⟨gx, .of hx'⟩
    cases ru
    have s2 : Same H1 (minus (upd (upd H1 dx (.own x)) x (.ins C dx [])) [x]) := fun a o e => by
      rw [minus_out (by simpa using ne_of_none e hx)]
      exact s1 a o e
    have g12 : Grow G1 H1 G2 H2 := ⟨g2.gg, s2.trans g2.hh, g2.gh, fun a z1 z2 => g2.sep a z1 (z2.up s2)⟩
    refine ⟨rfl, q _ G2 H2 fp' (g1.trans g12) ?_ fun p hp => ⟨?_, (hf p hp).1, (hf p hp).2.1⟩⟩
    · obtain ⟨y, dx, us, f1, _, h1, h2⟩ := hP
      cases h1
      exact ⟨_, dx, us, f1, (fun _ e => by cases e), rfl, h2⟩
    · rcases (hf p hp).2.2 with z | z
      · have : p = x := by simpa using z
        subst this
        exact Same.back g1.hh hx
      · exact Same.back (g1.hh.trans s1) z
/-! ### an item of a list of our own things -/
theorem Foc.item {x : Addr} {fp : List Addr} {j : Nat} (F : Foc K H0 G H σ (.ref x) (lsA K ss) fp put) (hf : ss[j]? = some (.ow A)) :
    ∃ v f0 us, H x = some (.lst us) ∧ us[j]? = some v ∧ us.length = ss.length ∧ Foc K H0 G H σ v A f0 (fun A' => put (lsA K (ss.set j (.ow A')))) := by
  obtain ⟨y, us, f1, e1, e2, h3, h4, hl, h5⟩ := F.P
  cases e1
  have hf1 : ∀ p ∈ f1, G p = none ∧ Mu H p := fun p hp => ⟨(F.fr p (by rw [e2]; simp [hp])).1, (F.fr p (by rw [e2]; simp [hp])).2.2⟩
  obtain ⟨v, f0, a1, a2, a3, a4⟩ := h5.at_ hf1 hf
  have hx : x ∉ f0 := fun z => h3 (a3 x z)
  refine ⟨v, f0, us, h4, a1, h5.length, a2, fun p hp => F.fr p (by rw [e2]; simp [a3 p hp]), fun G2 H2 A' f' g hf' hP => ?_⟩
  obtain ⟨fp', b1, b2⟩ := a4 G2 H2 A' f' g hf' hP
  have hH2 : ∀ p ∈ fp, p ∉ f0 → H2 p = H p := fun p hp hn => by
    obtain ⟨o, z, _⟩ := (F.fr p hp).2.2
    rw [z]; exact minus_same g.hh hn z
  have xfp : x ∈ fp := by rw [e2]; simp
  have hxf : x ∉ fp' := fun z => by
    rcases b2 x z with y | ⟨y, _⟩
    · rcases (hf' x y).2.2 with w | w
      · exact hx w
      · exact (F.fr x xfp).2.2.ne w
    · exact h3 y
  have le : ∀ a, a ∈ f0 → a ∈ fp := fun a ha => by rw [e2]; simp [a3 a ha]
  have g' : Grow G (minus H fp) G2 H2 := by
    refine ⟨g.gg, fun a o e => ?_, g.gh, fun a z1 z2 => ?_⟩
    · by_cases ha : a ∈ fp
      · rw [minus_in ha] at e; cases e
      · rw [minus_out ha] at e
        exact minus_same g.hh (fun z => ha (le a z)) e
    · have ha : a ∉ fp := fun ha => z2.ne (minus_in ha)
      exact g.sep a z1 (z2.eq (by rw [minus_out ha, minus_out (fun z => ha (le a z))]))
  refine F.set G2 H2 _ (x :: fp') g' (fun p hp => ?_) ⟨x, us, fp', rfl, rfl, hxf, by rw [hH2 x xfp hx]; exact h4, by rw [List.length_set]; exact hl, b1⟩
  rcases List.mem_cons.mp hp with rfl | hp
  · exact ⟨g.sep p (F.fr p xfp).1 ((F.fr p xfp).2.2.eq (minus_out hx)), (F.fr p xfp).2.2.eq (hH2 p xfp hx), .inl xfp⟩
  · rcases b2 p hp with y | ⟨y, y2⟩
    · exact ⟨(hf' p y).1, (hf' p y).2.1, (hf' p y).2.2.imp (le p) id⟩
    · have pf : p ∈ fp := by rw [e2]; simp [y]
      exact ⟨g.sep p (F.fr p pf).1 ((F.fr p pf).2.2.eq (minus_out y2)), (F.fr p pf).2.2.eq (hH2 p pf y2), .inl pf⟩
/-- l[i], an item that is ours -/
theorem pl_ix {i : Int} {j : Nat} (h : PL K ta ρ (lsA K ss) put) (hb : ED K tb ρ (.int i)) (hj : ixN ss.length i = some j) (hs : ss[j]? = some (.ow A)) : PL K (tOp (rIxL K) ta tb) ρ A (fun A' => put (lsA K (ss.set j (.ow A')))) := fun H0 σ G H fr s0 s => by
  obtain ⟨u, fp, F, k⟩ := h H0 σ G H fr s0 s
  have hx : ∃ x, u = .ref x := by obtain ⟨x, _, _, e, _⟩ := F.P; exact ⟨x, e⟩
  obtain ⟨x, rfl⟩ := hx
  obtain ⟨v, f0, us, h4, hv, hl, F2⟩ := F.item hs
  refine ⟨v, f0, F2, fun G1 H1 g1 Q q => k G1 H1 g1 _ fun G2 H2 g2 => ?_⟩
  have g12 := g1.trans g2
  refine hb H0 σ G2 H2 (fr.grow g12) g12.gh _ fun y G3 H3 g3 ry => ?_
  cases ry
  exact ⟨x, us, i, v, rfl, rfl, SqL.of ((g12.trans g3).hh _ _ h4), by unfold atI; rw [hl, hj]; exact hv, q G3 H3 (g2.trans g3)⟩
theorem co_snoc {v : V} {f2 : List Addr} : ∀ {ss : List (Sl K)} {us : List V} {f1 : List Addr}, CoP K G H ss us f1 → A.P G H v f2 → (∀ p ∈ f1, p ∉ f2) → CoP K G H (ss ++ [.ow A]) (us ++ [v]) (f1 ++ f2)
  | [], _, _, h, hA, n => by
    obtain ⟨rfl, rfl⟩ := h
    exact ⟨v, [], f2, [], rfl, by simp, hA, ⟨rfl, rfl⟩, fun p hp => by simp⟩
  | s :: ss, us, f1, h, hA, n => by
    obtain ⟨w, ws, a1, a2, rfl, rfl, h1, h2, h3⟩ := co_uncons h
    have ih := co_snoc h2 hA fun p hp => n p (List.mem_append_right _ hp)
    have := co_cons (ss := ss ++ [.ow A]) h1 ih fun p hp hq => by
      rcases List.mem_append.mp hq with z | z
      · exact h3 p hp z
      · exact n p (List.mem_append_left _ hp) z
    rw [List.append_assoc]
    exact this
end
/-! ### comprehensions that make or change things of our own -/
section
variable {K : PySem.W.Frag} {ρ : Sls K} {wi : TI} {g : TG} {te : TE} {vs : List Nat}
/-- [C(..) for x in xs] -/
theorem eo_lc {α : Type} {xs : List α} {f : α → PyData} {A : α → OwnA K} (hs : IT K wi ρ (xs.map f)) (hl : xs.length ≤ LIM) (hb : ∀ x ∈ xs, ∃ ρ', GD K g (wipeD ρ vs) (f x) ρ' vs ∧ EO K te ρ' (A x)) :
    EO K (tLc wi g tYes te vs) ρ (lsA K (xs.map fun x => .ow (A x))) := fun H0 σ G H er s Q q => hs H0 σ G H er s _ fun J G2 H2 g2 it D hD => by
  have hG2 : G2 D = none := Same.back g2.gh hD
  refine ⟨fun i m Hi => m = xs.length - i ∧ i ≤ xs.length ∧ ∃ Gi acc fp, Grow G2 H2 Gi Hi ∧ Gi D = none ∧ Hi D = some (.lst acc) ∧ D ∉ fp ∧ (∀ p ∈ fp, H2 p = none ∧ Gi p = none ∧ Mu Hi p) ∧ CoP K Gi Hi ((xs.take i).map fun x => .ow (A x)) acc fp, ⟨xs.length, rfl, Nat.zero_le _, G2, [], [], ?_, hG2, upd_same, by simp, fun p hp => by simp at hp, rfl, rfl⟩, ?_⟩
  · exact Grow.quiet g2.gh (same_upd hD)
  rintro i m Hi ⟨rfl, hi, Gi, acc, fp, gi, hGi, hHi, hDf, hfp, co⟩
  by_cases hlt : i < xs.length
  · have hlt' : i < (xs.map f).length := by simpa using hlt
    refine .inr ⟨it.go i Hi (gi.gg.trans gi.gh) hlt', fun H' => ∃ Gi acc fp, Grow G2 H2 Gi H' ∧ Gi D = none ∧ H' D = some (.lst acc) ∧ D ∉ fp ∧ (∀ p ∈ fp, H2 p = none ∧ Gi p = none ∧ Mu H' p) ∧ CoP K Gi H' ((xs.take (i + 1)).map fun x => .ow (A x)) acc fp, fun H' ⟨Gi, acc, fp, q1, q2, q3, q4, q5, q6⟩ => ⟨xs.length - (i + 1), by omega, rfl, hlt, Gi, acc, fp, q1, q2, q3, q4, q5, q6⟩, fun x H' y => ?_⟩
    obtain ⟨G', d, g', hd, rx⟩ := (it.mono gi.gg).yld i x Hi H' gi.gh hlt' y
    obtain ⟨x0, hx0⟩ := lt_get hlt
    have ed : d = f x0 := by
      rw [List.getElem?_map, hx0] at hd
      exact (Option.some.inj hd).symm
    subst ed
    obtain ⟨ρ', hg, he⟩ := hb x0 (List.mem_of_getElem? hx0)
    have er' : FrOk K H0 G' H' (wipeD ρ vs) (L2.wipe σ vs) := (er.grow ((g2.trans gi).trans g')).wipe vs
    refine hg H0 (L2.wipe σ vs) G' H' x er' g'.gh rx _ fun σ2 er2 w2 => ⟨?_, ?_⟩
    · rw [w2]
      apply List.ext_getElem?
      intro j
      by_cases hj : j ∈ vs
      · rw [wipe_in vs j hj, wipe_in vs j hj, L2.wipe_length]
      · rw [wipe_get vs j hj]
    show te σ2 H' _
    refine he H0 σ2 G' H' er2 g'.gh _ fun y G4 H4 fn g4 ry hfn => ?_
    have gg : Grow Gi Hi G4 H4 := g'.trans g4
    have hne : Mu Hi D := .of hHi
    have hG4 : G4 D = none := gg.sep D hGi hne
    have hD4 : H4 D = some (.lst acc) := gg.hh _ _ hHi
    have lacc : acc.length ≤ LIM := by
      rw [co.length, List.length_map, List.length_take]
      omega
    have gg4 := gi.trans gg
    have co4 : CoP K G4 H4 ((xs.take i).map fun x => .ow (A x)) acc fp := co.after (fun p hp => ⟨(hfp p hp).2.1, (hfp p hp).2.2⟩) gg
    have nD : D ∉ fn := fun z => by
      have h1 := (hfn D z).1
      rw [g'.hh _ _ hHi] at h1; cases h1
    have dj : ∀ p ∈ fp, p ∉ fn := fun p hp hq => ((hfp p hp).2.2.up g'.hh).ne (hfn p hq).1
    have fold : ∀ p, p ∈ fp ++ fn → H2 p = none ∧ G4 p = none ∧ Mu H4 p ∧ p ≠ D := fun p hp => by
      rcases List.mem_append.mp hp with z | z
      · exact ⟨(hfp p z).1, gg.sep p (hfp p z).2.1 (hfp p z).2.2, (hfp p z).2.2.up gg.hh, fun e => hDf (by rw [← e]; exact z)⟩
      · exact ⟨Same.back (gi.hh.trans g'.hh) (hfn p z).1, (hfn p z).2.1, (hfn p z).2.2, fun e => nD (by rw [← e]; exact z)⟩
    refine ⟨acc, hD4, lim_lt lacc, G4, acc ++ [y], fp ++ fn, ⟨gg4.gg, fun a o z => ?_, fun a o z => ?_, gg4.sep⟩, hG4, upd_same, fun z => (fold D z).2.2.2 rfl, fun p hp => ⟨(fold p hp).1, (fold p hp).2.1, (fold p hp).2.2.1.eq (upd_ne (fold p hp).2.2.2)⟩, ?_⟩
    · rw [upd_ne (ne_of_none z hD)]; exact gg4.hh a o z
    · rw [upd_ne (ne_of_none z hG4)]; exact gg4.gh a o z
    · rw [List.take_add_one, hx0, List.map_append]
      exact (co_snoc co4 ry dj).loc (Same.refl G4) fun a ha => upd_ne (fold a ha).2.2.2
  · have e : i = xs.length := by omega
    subst e
    refine .inl ⟨it.stop _ Hi (gi.gg.trans gi.gh) (by simp), ?_⟩
    rw [List.take_length] at co
    refine q _ Gi Hi (D :: fp) ((g2.trans gi)) ⟨D, acc, fp, rfl, rfl, hDf, hHi, by simpa using hl, co⟩ fun p hp => ?_
    rcases List.mem_cons.mp hp with rfl | hp
    · exact ⟨Same.back g2.hh hD, hGi, .of hHi⟩
    · exact ⟨Same.back g2.hh (hfp p hp).1, (hfp p hp).2⟩
theorem wipeD_in {ρ1 : Sls K} {s : Sl K} : ∀ {vs : List Nat} {i : Nat}, (wipeD ρ1 vs)[i]? = some s → i ∈ vs → s = .un
  | [], _, _, hi => by simp at hi
  | v :: vs, i, q, hi => by
    unfold wipeD at q
    rcases set_get q with ⟨_, z, _⟩ | ⟨n, q⟩
    · exact z
    · exact wipeD_in q (by simpa [Ne.symm n] using hi)
theorem unwipe {H0 G H : Hp} {σ : L2.St} {ρ1 : Sls K} (h : FrOk K H0 G H (wipeD ρ1 vs) (L2.wipe σ vs)) : FrOk K H0 G H (wipeD ρ1 vs) σ := by
  obtain ⟨fps, h1, h2⟩ := h.own
  refine ⟨by rw [← h.len, L2.wipe_length], fun i d q => ?_, fps, fun i A q => ?_, h2⟩
  · have hi : i ∉ vs := fun z => by cases wipeD_in q z
    have := h.get i d q
    rwa [wipe_get vs i hi] at this
  · have hi : i ∉ vs := fun z => by cases wipeD_in q z
    have := h1 i A q
    rwa [wipe_get vs i hi] at this
/-- [e for x in xs], e changes what is ours: S the slots by what is carried -/
theorem ee_lc {α β : Type} {xs : List α} {f : α → PyData} {S : β → Sls K} {step : β → α → β} {out : β → α → PyData} {b0 : β} (hs : IT K wi ρ (xs.map f)) (hl : xs.length ≤ LIM) (h0 : ρ = S b0) (hw : ∀ b, wipeD (S b) vs = S b)
    (hb : ∀ (pre post : List α) (x : α), xs = pre ++ x :: post → ∃ ρ' ρ2, GD K g (S (pre.foldl step b0)) (f x) ρ' vs ∧ EE K te ρ' (out (pre.foldl step b0) x) ρ2 ∧ wipeD ρ2 vs = S (step (pre.foldl step b0) x)) :
    EE K (tLc wi g tYes te vs) ρ (.list (xs.foldl (fun (p : β × List PyData) x => (step p.1 x, p.2 ++ [out p.1 x])) (b0, [])).2) (S (xs.foldl step b0)) := fun G0 H0 σ G H gr er Q q => hs H0 σ G H er gr.gh _ fun J G2 H2 g2 it D hD => by
  have fst : ∀ (l : List α) (p : β × List PyData), (l.foldl (fun (p : β × List PyData) x => (step p.1 x, p.2 ++ [out p.1 x])) p).1 = l.foldl step p.1 := by
    intro l
    induction l with
    | nil => intro p; rfl
    | cons x l ih => intro p; rw [List.foldl_cons, List.foldl_cons, ih]
  have snd : ∀ (l : List α) (p : β × List PyData), (l.foldl (fun (p : β × List PyData) x => (step p.1 x, p.2 ++ [out p.1 x])) p).2.length = p.2.length + l.length := by
    intro l
    induction l with
    | nil => intro p; rfl
    | cons x l ih => intro p; rw [List.foldl_cons, ih]; simp; omega
  subst h0
  have hG2 : G2 D = none := Same.back g2.gh hD
  have er2 := er.grow g2
  have gr2 := gr.trans g2
  -- what is ours is apart from the new list
  have erD : ∀ o, FrOk K (upd H0 D o) G2 (upd H2 D (.lst [])) (S b0) σ := fun o => by
    obtain ⟨fps, h1, h2⟩ := er2.own
    refine ⟨er2.len, er2.get, fps, fun i A z => ?_, h2⟩
    obtain ⟨v, a, b, c⟩ := h1 i A z
    have nD : ∀ p ∈ fps i, p ≠ D := fun p hp e => (c p hp).2.2.ne (by rw [e]; exact hD)
    exact ⟨v, a, A.loc b (Same.refl _) fun p hp => upd_ne (nD p hp), fun p hp => ⟨(c p hp).1, by rw [upd_ne (nD p hp)]; exact (c p hp).2.1, (c p hp).2.2.eq (upd_ne (nD p hp))⟩⟩
  have reb : ∀ {Gi Hi : Hp} {ρ1 : Sls K} {o o' : HO}, FrOk K (upd H0 D o) Gi Hi ρ1 σ → FrOk K (upd H0 D o') Gi Hi ρ1 σ := fun h => h.base fun p hp => by
    by_cases e : p = D
    · subst e; rw [upd_same] at hp; cases hp
    · rw [upd_ne e] at hp ⊢; exact hp
  have hH0D : H0 D = none := Same.back gr2.hh hD
  have hG0D : G0 D = none := Same.back gr2.gg hG2
  refine ⟨fun i m Hi => m = xs.length - i ∧ i ≤ xs.length ∧ ∃ Gi acc, Grow G0 H0 Gi Hi ∧ Same G2 Gi ∧ Gi D = none ∧ Hi D = some (.lst acc) ∧ FrOk K (upd H0 D (.lst acc)) Gi Hi (S ((xs.take i).foldl step b0)) σ ∧ RpA K Gi ((xs.take i).foldl (fun (p : β × List PyData) x => (step p.1 x, p.2 ++ [out p.1 x])) (b0, [])).2 acc, ⟨xs.length, rfl, Nat.zero_le _, G2, [], ?_, Same.refl _, hG2, upd_same, erD _, rfl⟩, ?_⟩
  · exact gr2.trans (Grow.quiet gr2.gh (same_upd hD))
  rintro i m Hi ⟨rfl, hi, Gi, acc, gi, si, hGi, hHi, fri, ra⟩
  by_cases hlt : i < xs.length
  · have hlt' : i < (xs.map f).length := by simpa using hlt
    refine .inr ⟨it.go i Hi (si.trans gi.gh) hlt', fun H' => ∃ Gi acc, Grow G0 H0 Gi H' ∧ Same G2 Gi ∧ Gi D = none ∧ H' D = some (.lst acc) ∧ FrOk K (upd H0 D (.lst acc)) Gi H' (S ((xs.take (i + 1)).foldl step b0)) σ ∧ RpA K Gi ((xs.take (i + 1)).foldl (fun (p : β × List PyData) x => (step p.1 x, p.2 ++ [out p.1 x])) (b0, [])).2 acc, fun H' ⟨Gi, acc, q1, q2, q3, q4, q5, q6⟩ => ⟨xs.length - (i + 1), by omega, rfl, hlt, Gi, acc, q1, q2, q3, q4, q5, q6⟩, fun x H' y => ?_⟩
    obtain ⟨G', d, g', hd, rx⟩ := (it.mono si).yld i x Hi H' gi.gh hlt' y
    obtain ⟨x0, hx0⟩ := lt_get hlt
    have ed : d = f x0 := by
      rw [List.getElem?_map, hx0] at hd
      exact (Option.some.inj hd).symm
    subst ed
    have ex : xs = xs.take i ++ x0 :: xs.drop (i + 1) := by
      obtain ⟨h1, h2⟩ := List.getElem?_eq_some_iff.mp hx0
      rw [← h2, List.getElem_cons_drop, List.take_append_drop]
    obtain ⟨ρ', ρ2, hg, he, hw2⟩ := hb _ _ x0 ex
    have et : ∀ {γ : Type} (st : γ → α → γ) (c : γ), (xs.take (i + 1)).foldl st c = st ((xs.take i).foldl st c) x0 := fun st c => by rw [List.take_add_one, hx0, List.foldl_append]; rfl
    have hne : Mu Hi D := .of hHi
    have fr' := (fri.grow g').wipe vs
    rw [hw] at fr'
    have gD : Grow G0 (upd H0 D (.lst acc)) Gi Hi := ⟨gi.gg, fun a o z => by
      by_cases e : a = D
      · subst e; rw [upd_same] at z; cases z; exact hHi
      · rw [upd_ne e] at z; exact gi.hh a o z, gi.gh, fun a z1 z2 => by
      by_cases e : a = D
      · subst e; exact hGi
      · exact gi.sep a z1 (z2.eq (upd_ne e).symm)⟩
    refine hg _ (L2.wipe σ vs) G' H' x fr' g'.gh rx _ fun σ2 fr2 w2 => ⟨?_, ?_⟩
    · rw [w2]
      apply List.ext_getElem?
      intro j
      by_cases hj : j ∈ vs
      · rw [wipe_in vs j hj, wipe_in vs j hj, L2.wipe_length]
      · rw [wipe_get vs j hj]
    show te σ2 H' _
    refine he G0 _ σ2 G' H' (gD.trans g') fr2 _ fun y G4 H4 g4 s4 fr4 ry => ?_
    have hD4 : H4 D = some (.lst acc) := g4.hh _ _ upd_same
    have hG4 : G4 D = none := g4.sep D hG0D (.of upd_same)
    have lacc : acc.length ≤ LIM := by
      rw [ra.length, snd, List.length_take]
      simp; omega
    have w4 : L2.wipe σ2 vs = L2.wipe σ vs := by
      rw [w2]
      apply List.ext_getElem?
      intro j
      by_cases hj : j ∈ vs
      · rw [wipe_in vs j hj, wipe_in vs j hj, L2.wipe_length]
      · rw [wipe_get vs j hj]
    have fr5 := fr4.wipe vs
    rw [w4] at fr5
    have fr6 := unwipe fr5
    rw [hw2, ← et step b0] at fr6
    have g5 : Grow G0 H0 G4 (upd H4 D (.lst (acc ++ [y]))) := ⟨g4.gg, fun a o z => by
      rw [upd_ne (ne_of_none z hH0D)]
      exact g4.hh a o (by rw [upd_ne (ne_of_none z hH0D)]; exact z), fun a o z => by rw [upd_ne (ne_of_none z hG4)]; exact g4.gh a o z, fun a z1 z2 => g4.sep a z1 (z2.up (same_upd hH0D))⟩
    refine ⟨acc, hD4, lim_lt lacc, G4, acc ++ [y], g5, (si.trans g'.gg).trans s4, hG4, upd_same, ?_, ?_⟩
    · obtain ⟨fps, h1, h2⟩ := fr6.own
      refine ⟨fr6.len, fr6.get, fps, fun i A z => ?_, h2⟩
      obtain ⟨v, a, b, c⟩ := h1 i A z
      have nD : ∀ p ∈ fps i, p ≠ D := fun p hp e => by
        have := (c p hp).2.1
        rw [e, upd_same] at this; cases this
      exact ⟨v, a, A.loc b (Same.refl _) fun p hp => upd_ne (nD p hp), fun p hp => ⟨(c p hp).1, by have := (c p hp).2.1; rw [upd_ne (nD p hp)] at this ⊢; exact this, (c p hp).2.2.eq (upd_ne (nD p hp))⟩⟩
    · rw [et (fun (p : β × List PyData) x => (step p.1 x, p.2 ++ [out p.1 x]))]
      have := (ra.mono (g'.gg.trans s4)).snoc ry
      rw [← fst (xs.take i) (b0, [])] at this
      exact this
  · have e : i = xs.length := by omega
    subst e
    refine .inl ⟨it.stop _ Hi (si.trans gi.gh) (by simp), ?_⟩
    rw [List.take_length] at ra fri
    have sG : Same Gi (upd Gi D (.lst acc)) := same_upd hGi
    refine q _ (upd Gi D (.lst acc)) Hi ⟨gi.gg.trans sG, gi.hh, fun a o z => ?_, fun a z1 z2 => ?_⟩ ((g2.gg.trans si).trans sG) ?_ ⟨D, acc, rfl, upd_same, by rw [snd]; simpa using hl, ra.mono sG⟩
    · by_cases ha : a = D
      · subst ha; rw [upd_same] at z; cases z; exact hHi
      · rw [upd_ne ha] at z; exact gi.gh a o z
    · rw [upd_ne (fun e => z2.ne (by rw [e]; exact hH0D))]
      exact gi.sep a z1 z2
    · obtain ⟨fps, h1, h2⟩ := fri.own
      refine ⟨fri.len, fun i d z => let ⟨v, a, b⟩ := fri.get i d z; ⟨v, a, b.mono sG⟩, fps, fun i A z => ?_, h2⟩
      obtain ⟨v, a, b, c⟩ := h1 i A z
      have nD : ∀ p ∈ fps i, p ≠ D := fun p hp e => by
        have := (c p hp).2.1
        rw [e, upd_same] at this; cases this
      exact ⟨v, a, A.loc b sG fun _ _ => rfl, fun p hp => ⟨by rw [upd_ne (nD p hp)]; exact (c p hp).1, by have := (c p hp).2.1; rw [upd_ne (nD p hp)] at this; exact this, (c p hp).2.2⟩⟩
end
end D2

set_option Elab.async false
set_option linter.all false
set_option maxRecDepth 100000
set_option maxHeartbeats 4000000
namespace D2
open PySem PySem.Spec PyProof.Rows L2
/-! ### own classes as the top leaves them -/
structure KFact (K : PySem.W.Frag) (mg : Str → Option Value) (c : Str) (ns : List Str) (C : Addr) : Prop where
  g : mg c = some (.ref C)
  at_ : ClsAt K c C
  cl : Cls K C
  na : ∀ f ∈ ns, NoAttr K C f
structure KAt (K : PySem.W.Frag) (mg : Str → Option Value) (c : Str) (ns : List Str) : Prop where
  ex : ∃ C, KFact K mg c ns C
noncomputable def KAt.C {K : PySem.W.Frag} {mg : Str → Option Value} {c : Str} {ns : List Str} (h : KAt K mg c ns) : Addr := Classical.choose h.ex
theorem KAt.f {K : PySem.W.Frag} {mg : Str → Option Value} {c : Str} {ns : List Str} (h : KAt K mg c ns) : KFact K mg c ns h.C := Classical.choose_spec h.ex
theorem KAt.eq {K : PySem.W.Frag} {mg : Str → Option Value} {c : Str} {ns : List Str} (h : KAt K mg c ns) {C : Addr} (hc : ClsAt K c C) : h.C = C := h.f.at_.inj hc
theorem KAt.na {K : PySem.W.Frag} {mg : Str → Option Value} {c : Str} {ns : List Str} (h : KAt K mg c ns) {f : Str} (hf : f ∈ ns) : NoAttr K h.C f := h.f.na f hf
/-- a method of the text -/
structure MethAt (K : PySem.W.Frag) (C : Addr) (m qual : Str) (st : Stmt) (ps : List Str) : Prop where
  ex : ∃ f fd, Fun K m qual st f fd ∧ Binds K fd ps [] ∧ Meth K C m f
structure InitAt (K : PySem.W.Frag) (C : Addr) (qual : Str) (st : Stmt) (ps : List Str) : Prop where
  ex : ∃ f fd, Fun K "__init__" qual st f fd ∧ Binds K fd ps [] ∧ Mk K C f
/-- methods as callers see them -/
structure MethOk (P : Program) (w : World) (K : PySem.W.Frag) (mg : Str → Option Value) (base : Heap) (C : Addr) (m : Str) (ps : List Str) (k : Nat) (sp : Sp) : Prop where
  ex : ∃ f fd, FnOk P w K mg base (L2.CX P w) k f fd ps sp ∧ Binds K fd ps [] ∧ Meth K C m f
structure InitOk (P : Program) (w : World) (K : PySem.W.Frag) (mg : Str → Option Value) (base : Heap) (C : Addr) (ps : List Str) (k : Nat) (sp : Sp) : Prop where
  ex : ∃ f fd, FnOk P w K mg base (L2.CX P w) k f fd ps sp ∧ Binds K fd ps [] ∧ Mk K C f
def startM {K : PySem.W.Frag} (x C : Addr) (fs : List (Str × Sl K)) (ds : List PyData) (n : Nat) : Sls K := .ow (insA K (some x) C fs) :: (ds.map .da ++ List.replicate (n - (ds.length + 1)) .un)
theorem startM_ok {K : PySem.W.Frag} {G H0 H : Hp} {N : List Str} {x C : Addr} {fs : List (Str × Sl K)} {ds : List PyData} {vs : List V} {fp : List Addr} (hP : (insA K (some x) C fs).P G H (.ref x) fp) (hf : ∀ p ∈ fp, G p = none ∧ H0 p = none ∧ Mu H p) (r : RpA K G ds vs) :
    FrOk K H0 G H (startM x C fs ds N.length) (L2.start N (.ref x :: vs)) := by
  have rl := r.length
  have no : ∀ (i : Nat) A, (ds.map Sl.da ++ List.replicate (N.length - (ds.length + 1)) Sl.un : Sls K)[i]? = some (.ow A) → False := fun i A q => by
    by_cases hi : i < ds.length
    · rw [List.getElem?_append_left (by simpa using hi), List.getElem?_map] at q
      cases e : ds[i]? with
      | none => rw [e] at q; cases q
      | some x => rw [e] at q; cases q
    · rw [List.getElem?_append_right (by simpa using Nat.le_of_not_lt hi), List.getElem?_replicate] at q
      split at q <;> cases q
  refine ⟨by unfold startM L2.start; simp [rl], fun i d q => ?_, fun i => if i = 0 then fp else [], fun i A q => ?_, fun i j A B hij q1 q2 => ?_⟩
  · cases i with
    | zero => cases q
    | succ i =>
      unfold startM at q
      rw [List.getElem?_cons_succ] at q
      by_cases hi : i < ds.length
      · rw [List.getElem?_append_left (by simpa using hi), List.getElem?_map] at q
        cases e : ds[i]? with
        | none => rw [e] at q; cases q
        | some y =>
          rw [e] at q
          have : y = d := by cases q; rfl
          subst this
          obtain ⟨v, hv, rv⟩ := r.get e
          refine ⟨v, ?_, rv⟩
          unfold L2.start
          rw [List.map_cons, List.cons_append, List.getElem?_cons_succ, List.getElem?_append_left (by simpa [rl] using hi), List.getElem?_map, hv]; rfl
      · rw [List.getElem?_append_right (by simpa using Nat.le_of_not_lt hi), List.getElem?_replicate] at q
        split at q <;> cases q
  · cases i with
    | zero =>
      cases q
      exact ⟨.ref x, rfl, hP, hf⟩
    | succ i => exact (no i A (by unfold startM at q; rwa [List.getElem?_cons_succ] at q)).elim
  · cases i with
    | succ i => exact (no i A (by unfold startM at q1; rwa [List.getElem?_cons_succ] at q1)).elim
    | zero =>
      cases j with
      | zero => exact absurd rfl hij
      | succ j => exact (no j B (by unfold startM at q2; rwa [List.getElem?_cons_succ] at q2)).elim
section
variable {P : Program} {w : World} {K : PySem.W.Frag} {mg : Str → Option Value} {base : Heap}
/-- how the body of a method over things of our own ends -/
def MB (K : PySem.W.Frag) (E : XK) (t : TS) (x C : Addr) (N : List Str) (fs : List (Str × Sl K)) (ds : List PyData) (r : PyData) (fs' : List (Str × Sl K)) : Prop :=
  ∃ ρ', ρ'[0]? = some (.ow (insA K (some x) C fs')) ∧ (SD K E t (startM x C fs ds N.length) (.rs r ρ') ∨ (r = .none ∧ SD K E t (startM x C fs ds N.length) (.nx ρ')))
/-- THE RULE for a method over things of our own -/
theorem okM {x qual : Str} {st : Stmt} {N ps : List Str} {k : Nat} {R : MRel K} {C f : Addr} {fd : FuncData} (F : Fun K x qual st f fd) (S : FnScope N ps (defScope st)) (len : ∀ fs ds r fs', R fs ds r fs' → ds.length + 1 = ps.length)
    (hbody : ∀ (f : Addr) (cdv : Value) (Ar : Around) (outer : List PySem.Env) (s : Shared) (H : Hp) (E : XK), Room k (Ar.deeper (envOfC qual (defScope st) s.heap.objs.size f cdv)) →
      ∃ t, PSs (cxOf (L2.CX P w) P w K mg base N qual (defScope st) f cdv Ar outer s H E) (defBody st) t ∧ ∀ x fs ds r fs', R fs ds r fs' → MB K E t x C N fs ds r fs') :
    FnOk P w K mg base (L2.CX P w) (k + 1) f fd ps (spM K C R) := by
  refine F.okX S (fun vs H Q E ⟨x, rest, fs, ds, r, fs', G, fp, e, s, hP, hf, ra, hr, _⟩ => by rw [e, List.length_cons, ra.length]; exact len _ _ _ _ hr) (fun cdv Ar outer s H vs Q E hrm ⟨x, rest, fs, ds, r, fs', G, fp, e, sg, hP, hf, ra, hR, q⟩ => ?_)
  obtain ⟨t, h1, h2⟩ := hbody f cdv Ar outer s H E hrm
  refine ⟨t, h1, ?_⟩
  subst e
  obtain ⟨ρ', h0, hs⟩ := h2 x fs ds r fs' hR
  have g0 : Grow G (minus H fp) G H := ⟨Same.refl G, Same.minus_le, sg, fun a z1 _ => z1⟩
  have f0 : FrOk K (minus H fp) G H (startM x C fs ds N.length) (L2.start N (.ref x :: rest)) := startM_ok hP (fun p hp => ⟨(hf p hp).1, minus_in hp, (hf p hp).2⟩) ra
  have fin : ∀ v (σ' : L2.St) G2 H2, Grow G (minus H fp) G2 H2 → FrOk K (minus H fp) G2 H2 ρ' σ' → Rp K G2 r v → Q v H2 := fun v σ' G2 H2 g2 f2 rv => by
    obtain ⟨fps, k1, _⟩ := f2.own
    obtain ⟨u, _, b, c⟩ := k1 0 _ h0
    have eu : u = .ref x := by
      obtain ⟨y, dx, us, f1, e0, e1, _⟩ := b
      rw [e1, e0 x rfl]
    subst eu
    refine q v G2 H2 (fps 0) g2 (fun p hp => ⟨(c p hp).1, (c p hp).2.2, ?_⟩) b rv
    by_cases hm : p ∈ fp
    · exact .inl hm
    · have := (c p hp).2.1
      rw [minus_out hm] at this
      exact .inr this
  rcases hs with hs | ⟨rfl, hs⟩
  · exact hs G (minus H fp) _ _ G H g0 f0 fun v σ' G2 H2 g2 f2 rv => fin v σ' G2 H2 g2 f2 rv
  · exact hs G (minus H fp) _ _ G H g0 f0 fun σ' G2 H2 g2 _ f2 => fin .non σ' G2 H2 g2 f2 rfl
theorem MethAt.ok {C : Addr} {m qual : Str} {st : Stmt} {N ps : List Str} {k : Nat} {R : MRel K} (A : MethAt K C m qual st ps) (S : FnScope N ps (defScope st)) (len : ∀ fs ds r fs', R fs ds r fs' → ds.length + 1 = ps.length)
    (hbody : ∀ (f : Addr) (cdv : Value) (Ar : Around) (outer : List PySem.Env) (s : Shared) (H : Hp) (E : XK), Room k (Ar.deeper (envOfC qual (defScope st) s.heap.objs.size f cdv)) →
      ∃ t, PSs (cxOf (L2.CX P w) P w K mg base N qual (defScope st) f cdv Ar outer s H E) (defBody st) t ∧ ∀ x fs ds r fs', R fs ds r fs' → MB K E t x C N fs ds r fs') : MethOk P w K mg base C m ps (k + 1) (spM K C R) := by
  obtain ⟨f, fd, F, B, M⟩ := A.ex
  exact ⟨f, fd, okM F S len hbody, B, M⟩
theorem InitAt.ok {C : Addr} {qual : Str} {st : Stmt} {N ps : List Str} {k : Nat} {R : MRel K} (A : InitAt K C qual st ps) (S : FnScope N ps (defScope st)) (len : ∀ fs ds r fs', R fs ds r fs' → ds.length + 1 = ps.length)
    (hbody : ∀ (f : Addr) (cdv : Value) (Ar : Around) (outer : List PySem.Env) (s : Shared) (H : Hp) (E : XK), Room k (Ar.deeper (envOfC qual (defScope st) s.heap.objs.size f cdv)) →
      ∃ t, PSs (cxOf (L2.CX P w) P w K mg base N qual (defScope st) f cdv Ar outer s H E) (defBody st) t ∧ ∀ x fs ds r fs', R fs ds r fs' → MB K E t x C N fs ds r fs') : InitOk P w K mg base C ps (k + 1) (spM K C R) := by
  obtain ⟨f, fd, F, B, M⟩ := A.ex
  exact ⟨f, fd, okM F S len hbody, B, M⟩
/-- a method over data (an instance that changes no more) -/
theorem okFq {x qual : Str} {st : Stmt} {N ps : List Str} {k : Nat} {R : List PyData → Res → Prop} {f : Addr} {fd : FuncData} (F : Fun K x qual st f fd) (S : FnScope N ps (defScope st)) (hps : ps.length ≤ N.length) (len : ∀ ds r, R ds r → ds.length = ps.length)
    (hbody : ∀ (f : Addr) (cdv : Value) (Ar : Around) (outer : List PySem.Env) (s : Shared) (H : Hp) (E : XK), Room k (Ar.deeper (envOfC qual (defScope st) s.heap.objs.size f cdv)) →
      ∃ t, PSs (cxOf (L2.CX P w) P w K mg base N qual (defScope st) f cdv Ar outer s H E) (defBody st) t ∧ ∀ ds r, R ds r → (SD K E t (startS ds N.length) (resO r) ∨ (r = .val .none ∧ ∃ ρ, SD K E t (startS ds N.length) (.nx ρ)))) :
    FnOk P w K mg base (L2.CX P w) (k + 1) f fd ps (spD K R) := by
  refine F.okX S (fun vs H Q E ⟨G, ds, r, s, ra, hr, _⟩ => ra.length.trans (len ds r hr)) (fun cdv Ar outer s H vs Q E hrm ⟨G, ds, r, sg, ra, hR, q⟩ => ?_)
  obtain ⟨t, h1, h2⟩ := hbody f cdv Ar outer s H E hrm
  have hl : ds.length ≤ N.length := by rw [len ds r hR]; exact hps
  refine ⟨t, h1, ?_⟩
  rcases h2 ds r hR with h2 | ⟨rfl, ρ, h2⟩
  · refine h2 G H _ (L2.start N vs) G H (Grow.refl sg) (start_ok ra) ?_
    cases r with
    | val d => exact fun v G2 H2 g r => q v G2 H2 g r
    | exc c => exact fun C hC H2 e => q C hC H2 e
  · exact h2 G H _ (L2.start N vs) G H (Grow.refl sg) (start_ok ra) fun σ G2 H2 g _ _ => q _ G2 H2 g rfl
theorem MethAt.okD {C : Addr} {m qual : Str} {st : Stmt} {N ps : List Str} {k : Nat} {R : List PyData → Res → Prop} (A : MethAt K C m qual st ps) (S : FnScope N ps (defScope st)) (hps : ps.length ≤ N.length) (len : ∀ ds r, R ds r → ds.length = ps.length)
    (hbody : ∀ (f : Addr) (cdv : Value) (Ar : Around) (outer : List PySem.Env) (s : Shared) (H : Hp) (E : XK), Room k (Ar.deeper (envOfC qual (defScope st) s.heap.objs.size f cdv)) →
      ∃ t, PSs (cxOf (L2.CX P w) P w K mg base N qual (defScope st) f cdv Ar outer s H E) (defBody st) t ∧ ∀ ds r, R ds r → (SD K E t (startS ds N.length) (resO r) ∨ (r = .val .none ∧ ∃ ρ, SD K E t (startS ds N.length) (.nx ρ)))) : MethOk P w K mg base C m ps (k + 1) (spD K R) := by
  obtain ⟨f, fd, F, B, M⟩ := A.ex
  exact ⟨f, fd, okFq F S hps len hbody, B, M⟩
end
section
variable {X : Cx} {x m : Str} {ps : List Str} {k : Nat} {sp : Sp} {E : XK} {e o : Expr} {es : List Expr} {t : TA} {ta : TE} {p pos apos : Pos} {P : Program} {w : World} {K : PySem.W.Frag} {mg : Str → Option Value} {base : Heap} {C : Addr}
theorem pe_methD {pl : Sem Bool} (he : PE X o ta) (c : Cls K C) (h : MethOk P w K mg base C m ps k sp) (hr : Room k X.A) (hx : Passes (L2.CX X.prog X.w) X E) (ha : PA X (e :: es) t) (hX : X.prog = P ∧ X.w = w ∧ X.K = K ∧ X.mg = mg ∧ X.base = base := by exact ⟨rfl, rfl, rfl, rfl, rfl⟩)
    (hst : starEach (e :: es) X.env = (false, eval e X.env) :: starEach es X.env := by rfl) (hpl : (backTo pos (starEach es X.env)).any (·.1) = false := by rfl)
    (ht : eval (.Call (.Attribute o m apos) (e :: es) [] pos) X.env = (do
      let ov ← eval o X.env
      standAt apos.atName
      let (f, first) ← holding [ov] (getMethod ov m pl)
      callWith pos f first (backTo pos (starEach (e :: es) X.env)) (backToKw pos (keywordEach [] X.env))) := by rfl) : PE X (.Call (.Attribute o m apos) (e :: es) [] pos) (tMeth C m sp [] E ta t) := by
  obtain ⟨rfl, rfl, rfl, rfl, rfl⟩ := hX
  obtain ⟨f, fd, F, B, M⟩ := h.ex
  exact pe_meth he c M F hr B .nil hx ha hst hpl ht
theorem pe_methD0 {pl : Sem Bool} (he : PE X o ta) (c : Cls K C) (h : MethOk P w K mg base C m ps k sp) (hr : Room k X.A) (hx : Passes (L2.CX X.prog X.w) X E) (hX : X.prog = P ∧ X.w = w ∧ X.K = K ∧ X.mg = mg ∧ X.base = base := by exact ⟨rfl, rfl, rfl, rfl, rfl⟩)
    (ht : eval (.Call (.Attribute o m apos) [] [] pos) X.env = (do
      let ov ← eval o X.env
      standAt apos.atName
      let (f, first) ← holding [ov] (getMethod ov m pl)
      callWith pos f first (backTo pos (starEach [] X.env)) (backToKw pos (keywordEach [] X.env))) := by rfl) : PE X (.Call (.Attribute o m apos) [] [] pos) (tMeth C m sp [] E ta tNil) := by
  obtain ⟨rfl, rfl, rfl, rfl, rfl⟩ := hX
  obtain ⟨f, fd, F, B, M⟩ := h.ex
  exact pe_meth0 he c M F hr B .nil hx ht
theorem pe_makeD (h : InitOk P w K mg base C ps k sp) (hr : Room (k + 1) X.A) (hg : Gl X x) (hm : mg x = some (.ref C)) (hx : Passes (L2.CX X.prog X.w) X E) (ha : PA X (e :: es) t) (hX : X.prog = P ∧ X.w = w ∧ X.K = K ∧ X.mg = mg ∧ X.base = base := by exact ⟨rfl, rfl, rfl, rfl, rfl⟩)
    (hdb : (x == ("__debug__" : Str)) = false := by decide) (he : starEach (e :: es) X.env = (false, eval e X.env) :: starEach es X.env := by rfl) (hpl : (backTo pos (starEach es X.env)).any (·.1) = false := by rfl) : PE X (.Call (.Name x p) (e :: es) [] pos) (tMake C sp [] E t) := by
  obtain ⟨rfl, rfl, rfl, rfl, rfl⟩ := hX
  obtain ⟨f, fd, F, B, M⟩ := h.ex
  exact pe_make M F hr hg hm B .nil hx ha hdb he hpl
theorem k_fld {f : Str} {pos : Pos} (he : PE X e ta) (hK : X.K = K := by rfl) (hb : attributeBase e f X.env (eval e X.env) = eval e X.env := by rfl) : PE X (.Attribute e f pos) (tFld K ta f) := hK ▸ pe_fld he hb
theorem k_sfld {value : Expr} {tv : TE} {f : Str} {pos pos' : Pos} (ha : PE X o ta) (hv : PE X value tv) (hK : X.K = K := by rfl) (hs : swapsWith value (some (.Attribute o f pos')) pos.line X.env = pure false := by rfl) : PS X (.Assign [.Attribute o f pos'] value pos) (sFld K ta tv f) := hK ▸ ps_fld ha hv hs
end
/-! ### from the head's facts -/
section
variable {K : PySem.W.Frag} {mg : Str → Option Value} {h : Heap}
theorem kat_mk {c : Str} {ns : List Str} {C : Addr} (X : K.In h) (G : h.Ns mainGlobals mg) (a : PySem.W.nsIn K mainGlobals c = some (some (.ref C))) (pg : PySem.W.plainGet K C Str.empty = true) (hd : PySem.W.hasDictIn K C = true) (po : PySem.W.plainOver K C = true)
    (sa : PySem.W.findIn K (.ref C) "__setattr__" = some (some (.builtin "object.__setattr__"))) (na : ∀ f ∈ ns, PySem.W.findIn K (.ref C) f = some none) : KAt K mg c ns := ⟨⟨C, PySem.W.mg_of X G a, a, ⟨pg, hd, po, sa⟩, na⟩⟩
theorem methat_mk {c m qual : Str} {ns : List Str} {st : Stmt} {ps : List Str} {C f : Addr} {oc : Value} {od an : Option Addr} {osl : Array (Option Value)} {kV doc pm cdv ct : Value} (T : KAt K mg c ns)
    (hb : ∀ (kV doc pm : Value) (an : Option Addr) (cdv ct : Value) (us : List Value), us.length = ps.length → bindArgs (PySem.W.fnOf m qual (defArgs st) (defBody st) (defScope st) .none kV doc pm an cdv ct) ⟨us, []⟩ = pure (ps.zip us))
    (hc : PySem.W.nsIn K mainGlobals c = some (some (.ref C))) (a : PySem.W.findIn K (.ref C) m = some (some (.ref f))) (i : PySem.W.isFn K (.ref f) = true) (l : K.lookup f = some ⟨oc, od, .func (PySem.W.fnOf m qual (defArgs st) (defBody st) (defScope st) .none kV doc pm an cdv ct), osl⟩)
    (cd : PySem.W.codeIn K cdv qual = true) (k : PySem.W.keepIn K (.ref f) = true) : MethAt K T.C m qual st ps := by
  have e : T.C = C := T.eq hc
  have F := fun_mk (st := st) l cd k
  exact ⟨f, _, F, F.binds hb, by rw [e]; exact ⟨a, i, k⟩⟩
theorem initat_mk {c qual : Str} {ns : List Str} {st : Stmt} {ps : List Str} {C f : Addr} {oc : Value} {od an : Option Addr} {osl : Array (Option Value)} {kV doc pm cdv ct : Value} (T : KAt K mg c ns)
    (hb : ∀ (kV doc pm : Value) (an : Option Addr) (cdv ct : Value) (us : List Value), us.length = ps.length → bindArgs (PySem.W.fnOf "__init__" qual (defArgs st) (defBody st) (defScope st) .none kV doc pm an cdv ct) ⟨us, []⟩ = pure (ps.zip us))
    (hc : PySem.W.nsIn K mainGlobals c = some (some (.ref C))) (a : PySem.W.findIn K (.ref C) "__init__" = some (some (.ref f))) (i : PySem.W.isFn K (.ref f) = true) (l : K.lookup f = some ⟨oc, od, .func (PySem.W.fnOf "__init__" qual (defArgs st) (defBody st) (defScope st) .none kV doc pm an cdv ct), osl⟩)
    (cd : PySem.W.codeIn K cdv qual = true) (k : PySem.W.keepIn K (.ref f) = true) (mk : PySem.W.makesIn K C = true) (kc : PySem.W.keepIn K (.ref C) = true) : InitAt K T.C qual st ps := by
  have e : T.C = C := T.eq hc
  have F := fun_mk (st := st) l cd k
  exact ⟨f, _, F, F.binds hb, by rw [e]; exact ⟨mk, a, i, kc⟩⟩
end
end D2

set_option Elab.async false
set_option linter.all false
set_option maxRecDepth 100000
set_option maxHeartbeats 4000000
namespace D2
open PySem PySem.Spec PyProof.Rows L2
/-! ### dict(d): a copy, keys that are tuples -/
section
variable {prog : Program} {w : World} {K : Type} [DecidableEq K] {knd : HeapKind prog w K} {A : Around} {E : Value → Shared → Prop} {s : Shared}
theorem call_dictH {o : Addr} {more : List (K × Addr × Value)} {Q : Value → Shared → Prop} (hu : ∀ A', A'.units ≤ A.units + 2 → knd.room A') (hoS : (o == sysModules) = false) (ho : s.heap.DictOfH knd o more) (hty : ∀ x ∈ more, s.TypeIs (.ref x.2.1) "tuple") (hap : (more.map fun x => knd.hash x.1).Nodup) (hsz : more.length ≤ sizeLine)
    (hst : ∀ h' : Heap, (∀ b o, s.heap.get? b = some o → h'.get? b = some o) → h'.DictOfH knd o more)
    (h : ∀ h' : Heap, h'.DictOfH knd s.heap.objs.size more → Heap.SameBut s.heap.objs.size (s.heap.push { cls := .type "dict", data := .dict #[] }) h' → Q (.ref s.heap.objs.size) { s with heap := h' }) :
    wpAny (model prog w) A (call (.type "dict") [.ref o]) Q E s := by
  refine callType_codes (Q₁ := fun obj s₁ => obj = .ref s.heap.objs.size ∧ s₁ = { s with heap := s.heap.push { cls := .type "dict", data := .dict #[] } }) F.kt_called_dict (F.kt_typeCall_dict_1 _) F.entry_dict_init (kt_code_dict_new _ ⟨rfl, rfl⟩) ?_
  rintro obj s₁ ⟨rfl, rfl⟩
  have hnew : (s.heap.push { cls := .type "dict", data := .dict #[] }).DictOfH knd s.heap.objs.size [] := ⟨_, #[], 0, Heap.get?_push_size _ rfl, ⟨rfl, rfl, rfl⟩, rfl, rfl, fun x hx => by simp at hx, List.nodup_nil⟩
  have ho' : (s.heap.push { cls := .type "dict", data := .dict #[] }).DictOfH knd o more := hst _ fun b o e => Heap.get?_push_of_some _ e
  have hn : (more.map (·.1)).Nodup := ho.nodup
  have hdo : s.heap.objs.size ≠ o := by
    obtain ⟨_, _, _, hg, _⟩ := ho
    exact fun e => absurd (Heap.lt_size hg) (by rw [e]; exact Nat.lt_irrefl _)
  refine ⟨hnew.typeIs, F.args_dict_init_2 _ _, ?_⟩
  unfold Builtin.«dict.__init__»
  refine wpAny_bind ?_
  unfold Builtin.Dict.selfAndRest
  refine wpAny_bind (wpAny_notOrdered_dict hnew.typeIs ?_)
  show wpAny _ _ (pure (s.heap.objs.size, [Value.ref o])) _ _ _
  refine wpAny_pure ?_
  show wpAny _ _ (Builtin.Dict.updateFrom "dict.__init__" s.heap.objs.size (.ref o) [] .none) _ _ _
  unfold Builtin.Dict.updateFrom
  refine wpAny_bind (wpAny_typeOf ho'.typeIs ?_)
  rw [if_neg (by decide)]
  refine wpAny_bind ?_
  unfold Builtin.Dict.merge
  refine wpAny_bind ?_
  unfold Builtin.Dict.readDirectly
  refine wpAny_bind (wpAny_isInstance ho'.typeIs isSubtype_dict_dict ?_)
  simp only [Bool.not_true, Bool.false_eq_true, if_false]
  refine wpAny_bind (wpAny_specialOf ho'.typeIs F.slot_dict_iter.lookup (wpAny_pure ?_))
  simp only [beq_self_eq_true, if_true]
  refine wpAny_bind (wpAny_pure ?_)
  have hty' : ∀ x ∈ more, ({ s with heap := s.heap.push { cls := .type "dict", data := .dict #[] } } : Shared).TypeIs (.ref x.2.1) "tuple" := fun x hx => by
    obtain ⟨ob, e1, e2⟩ := hty x hx
    exact ⟨ob, Heap.get?_push_of_some _ e1, e2⟩
  refine wpAny_mergeDict_heap (hsz := by simpa using hsz) (hu _ ?_) hdo hoS hnew ho' (.inr ⟨hty', hap⟩) fun h' hd' _ hs' => ?_
  · simp [Around.in1, Around.under, Code.cUnits, Code.frames, Code.isFrame]
  show wpAny _ _ (Builtin.Dict.addKeywords s.heap.objs.size [] >>= _) _ _ _
  rw [storedAllH_nil_of_nodup more hn] at hd'
  exact wpAny_bind (wpAny_pure (wpAny_pure ⟨rfl, h h' hd' hs'⟩))
end
section
variable {X : Cx} {K : PySem.W.Frag}
def hashK (w : World) (k : List Key) : Int := reduceHash (Builtin.Tuple.tupleHashOf (k.map (keyH w)))
def rDictT (w : World) : List V → Hp → VK → Prop := fun xs H Q => ∃ (a : Addr) (kvs : List (List Key × V)), xs = [.ref a] ∧ Rd H a (.dT kvs) ∧ (kvs.map fun p => hashK w p.1).Nodup ∧ ∀ p, H p = none → Q (.ref p) (upd H p (.dT kvs))
theorem call_dictT (hu : X.A.units + 64 < cLine) : CallR X (.type "dict") (rDictT X.w) := by
  intro pins s σ H xs us Q I r q
  obtain ⟨a, kvs, ex, hd, hn, q⟩ := q
  subst ex
  obtain ⟨u, eu, rx⟩ := vals1 r
  subst eu
  cases rx
  obtain ⟨z, lo, xs, kt, dd⟩ := dt_rd I.hok hd
  have hap : ∀ {l : List (List Key × V)} {m : List (List Key × Addr × Value)}, KT H l m → (m.map fun x => (tupleKind (mixKind X.prog X.w)).hash x.1) = l.map fun p => hashK X.w p.1 := by
    intro l m q
    induction q with
    | nil => rfl
    | cons hq t ih => rw [List.map_cons, List.map_cons, ih, ← hq.1]; rfl
  have key : ∀ h' : Heap, (∀ b o, s.heap.get? b = some o → h'.get? b = some o) → ∀ {l : List (List Key × V)} {m : List (List Key × Addr × Value)}, KT H l m → ∀ x ∈ m, (tupleKind (mixKind X.prog X.w)).is h' x.1 x.2.1 := by
    intro h' hk l m q
    induction q with
    | nil => intro x hx; exact nomatch hx
    | @cons p q ps qs hq t ih =>
      intro x hx
      rcases List.mem_cons.mp hx with e | hx
      · subst e
        have h1 := key_of (P := X.prog) (w := X.w) I.hok hq.2.1
        rw [hq.1] at h1
        obtain ⟨o, items, n, e1, e2, e3, e4⟩ := h1
        exact ⟨o, items, n, hk _ _ e1, e2, e3, e4⟩
      · exact ih x hx
  have hlen : xs.length = kvs.length := (Paired.length kt).symm
  refine call_dictH (knd := tupleKind (mixKind X.prog X.w)) (fun A' h => by show A'.units < cLine; omega) lo dd (fun x hx => (key s.heap (fun _ _ e => e) kt x hx).typeIs) (by rw [hap kt]; exact hn) (by rw [hlen]; exact z) (fun h' hk => ?_) fun h' d' hs => ?_
  · obtain ⟨o, es, ep, h1, h2, h3, h4, h5, h6⟩ := dd
    exact ⟨o, es, ep, hk _ _ h1, h2, h3, h4, fun x hx => key h' hk kt x hx, h6⟩
  have hm : (s.heap.objs.size == sysModules) = false := beq_eq_false_iff_ne.mpr (Nat.ne_of_gt I.big)
  have hfr := I.hok.fresh (Nat.le_refl s.heap.objs.size)
  obtain ⟨o, es, ep, h1, h2, h3, h4, h5, h6⟩ := d'
  refine ⟨.ref s.heap.objs.size, upd H s.heap.objs.size (.dT kvs), I.laid (t' := s.toks) (fun b u e => (hs.2 b (Nat.ne_of_lt (Heap.lt_size e))).trans (Heap.get?_push_of_some _ e)) (Nat.le_refl _)
    (show ObjOk X.prog X.w _ _ _ (.dT kvs) from ⟨z, hm, xs, kt.keeps fun b ys e => ?_, o, es, ep, h1, h2, h3, h4, h6⟩), rfl, q _ hfr⟩
  rw [upd_ne (ne_of_none e hfr)]; exact e
theorem k_dictT {w : World} (hu : X.A.units + 64 < cLine) (hw : X.w = w := by rfl) : CallR X (.type "dict") (rDictT w) := hw ▸ call_dictT hu
variable {w : World} {ρ : Sls K} {te : TE}
theorem ed_dictT {kvs : List (List Key × PyData)} (h : ED K te ρ (dtD kvs)) (hn : (kvs.map fun p => hashK w p.1).Nodup) : ED K (tFrzE (tCB (rDictT w) (tCons te tNil))) ρ (dtD kvs) := fun H0 σ G H er s Q q =>
  h H0 σ G H er s _ fun v G2 H2 g r => by
    obtain ⟨a, o, us, rfl, ra, hl, hG⟩ := Rp.dt.mp r
    have l2 := ra.length
    rw [List.length_map] at l2
    have hn' : (((kvs.map (·.1)).zip us).map fun p => hashK w p.1).Nodup := by
      have e : (((kvs.map (·.1)).zip us).map fun p => hashK w p.1) = kvs.map fun p => hashK w p.1 := by
        have : (((kvs.map (·.1)).zip us).map fun p => hashK w p.1) = (((kvs.map (·.1)).zip us).map (·.1)).map (hashK w) := by rw [List.map_map]; rfl
        rw [this, List.map_fst_zip (by simp [l2]), List.map_map]; rfl
      rw [e]; exact hn
    refine ⟨a, _, rfl, .inr ⟨o, g.gh _ _ hG⟩, hn', fun p hp => ⟨p, _, rfl, upd_same, trivial, fun od => ?_⟩⟩
    rw [upd_upd]
    have gp : G2 p = none := Same.back g.gh hp
    have sg : Same G2 (upd G2 p (.frz od (.dT ((kvs.map (·.1)).zip us)))) := same_upd gp
    exact q _ _ _ (g.trans (Grow.new g.gh hp)) (Rp.dt.mpr ⟨p, od, us, rfl, ra.mono sg, hl, upd_same⟩)
end
end D2

set_option Elab.async false
set_option linter.all false
set_option maxRecDepth 100000
set_option maxHeartbeats 4000000
namespace D2
open PySem PySem.Spec PyProof.Rows L2
/-! ### the hash of a place: three whole numbers; no two places have the same -/
namespace Hs
def M : Nat := 18446744073709551616
def P1 : Nat := 11400714785074694791
def P2 : Nat := 14029467366897019727
def P5 : Nat := 2870177450012600261
def Q1 : Nat := 614540362697595703
def Q2 : Nat := 839798700976720815
def CC : Nat := 3 ^^^ (P5 ^^^ 3527539)
def rot (x : Nat) : Nat := (x * 2147483648) % M + x / 8589934592
def unrot (r : Nat) : Nat := (r % 2147483648) * 8589934592 + r / 2147483648
def st (acc h : Nat) : Nat := (rot ((acc + h * P2) % M) * P1) % M
def acc2 (a b : Nat) : Nat := st (st P5 a) b
def E (a b : Nat) : Nat := (acc2 a b * Q2) % M
def fin (z : Nat) : Int := if z = M - 1 then 1546275796 else if z < 9223372036854775808 then z else (z : Int) - M
def X : Nat := (unrot (((M - 1 + (M - CC)) % M * Q1) % M) * Q2) % M
theorem rot_eq {x : Nat} : (x * 2147483648) % M = (x % 8589934592) * 2147483648 := by
  have e : x * 2147483648 = 18446744073709551616 * (x / 8589934592) + (x % 8589934592) * 2147483648 := by omega
  unfold M
  rw [e, Nat.mul_add_mod, Nat.mod_eq_of_lt]
  omega
theorem unrot_rot {x : Nat} (h : x < M) : unrot (rot x) = x := by
  unfold unrot rot
  rw [rot_eq]
  have hq : x / 8589934592 < 2147483648 := by unfold M at h; omega
  have h1 : (x % 8589934592 * 2147483648 + x / 8589934592) % 2147483648 = x / 8589934592 := by omega
  have h2 : (x % 8589934592 * 2147483648 + x / 8589934592) / 2147483648 = x % 8589934592 := by omega
  rw [h1, h2]
  omega
theorem rot_lt {x : Nat} (h : x < M) : rot x < M := by
  unfold rot
  rw [rot_eq]
  unfold M at *
  omega
theorem mul_inv {x p q : Nat} (hpq : (p * q) % M = 1) (h : x < M) : ((x * p) % M * q) % M = x := by
  rw [Nat.mod_mul_mod, Nat.mul_assoc, Nat.mul_mod, hpq, Nat.mul_one, Nat.mod_mod]
  exact Nat.mod_eq_of_lt h
theorem pq1 : (P1 * Q1) % M = 1 := by decide +kernel
theorem pq2 : (P2 * Q2) % M = 1 := by decide +kernel
def zed (x : Nat) : Nat := ((rot x * P1) % M + CC) % M
theorem zed_inv {x : Nat} (h : x < M) : unrot (((zed x + (M - CC)) % M * Q1) % M) = x := by
  have h1 : (zed x + (M - CC)) % M = (rot x * P1) % M := by
    unfold zed
    have hc : CC ≤ M := by decide +kernel
    have hy : (rot x * P1) % M < M := Nat.mod_lt _ (by decide)
    generalize (rot x * P1) % M = y at *
    generalize CC = c at *
    unfold M at *
    omega
  rw [h1, mul_inv pq1 (rot_lt h), unrot_rot h]
theorem last_in {a b c : Nat} : (((acc2 a b + c * P2) % M) * Q2) % M = (E a b + c) % M := by
  unfold E
  rw [Nat.mod_mul_mod, Nat.add_mul, Nat.add_mod, Nat.mul_assoc c, Nat.mul_mod c, pq2, Nat.mul_one, Nat.mod_mod, Nat.add_mod_mod]
theorem apart0 : ∀ a b : Fin 32, a = b ∨ (9409 ≤ (E (a.val / 16) (a.val % 16) + (M - E (b.val / 16) (b.val % 16))) % M ∧ (E (a.val / 16) (a.val % 16) + (M - E (b.val / 16) (b.val % 16))) % M ≤ M - 9409) := by decide +kernel
theorem apart (a : Nat) (ha : a < 2) (b : Nat) (hb : b < 16) (a' : Nat) (ha' : a' < 2) (b' : Nat) (hb' : b' < 16) : (a = a' ∧ b = b') ∨ (9409 ≤ (E a b + (M - E a' b')) % M ∧ (E a b + (M - E a' b')) % M ≤ M - 9409) := by
  have h := apart0 ⟨a * 16 + b, by omega⟩ ⟨a' * 16 + b', by omega⟩
  have e1 : (a * 16 + b) / 16 = a := by omega
  have e2 : (a * 16 + b) % 16 = b := by omega
  have e3 : (a' * 16 + b') / 16 = a' := by omega
  have e4 : (a' * 16 + b') % 16 = b' := by omega
  simp only [e1, e2, e3, e4, Fin.mk.injEq] at h
  rcases h with h | h
  · exact .inl ⟨by omega, by omega⟩
  · exact .inr h
theorem noX : ∀ a, a < 2 → ∀ b, b < 16 → 9409 ≤ (X + (M - E a b)) % M := by decide +kernel
theorem E_lt (a b : Nat) : E a b < M := Nat.mod_lt _ (by decide)
theorem zed_ne {a b c : Nat} (ha : a < 2) (hb : b < 16) (hc : c < 9409) : zed ((acc2 a b + c * P2) % M) ≠ M - 1 := fun e => by
  have h1 := zed_inv (x := (acc2 a b + c * P2) % M) (Nat.mod_lt _ (by decide))
  have h2 := last_in (a := a) (b := b) (c := c)
  rw [← h1, e] at h2
  have h3 : X = (E a b + c) % M := h2
  have h4 := noX a ha b hb
  have h5 := E_lt a b
  have h6 : X < M := Nat.mod_lt _ (by decide)
  generalize X = x at *
  generalize E a b = e at *
  unfold M at *
  omega
theorem zed_inj {a b c a' b' c' : Nat} (ha : a < 2) (hb : b < 16) (hc : c < 9409) (ha' : a' < 2) (hb' : b' < 16) (hc' : c' < 9409) (h : zed ((acc2 a b + c * P2) % M) = zed ((acc2 a' b' + c' * P2) % M)) : a = a' ∧ b = b' ∧ c = c' := by
  have h1 := zed_inv (x := (acc2 a b + c * P2) % M) (Nat.mod_lt _ (by decide))
  rw [h, zed_inv (Nat.mod_lt _ (by decide))] at h1
  have h2 := last_in (a := a) (b := b) (c := c)
  rw [← h1, last_in] at h2
  have e1 := E_lt a b
  have e2 := E_lt a' b'
  rcases apart a ha b hb a' ha' b' hb' with ⟨rfl, rfl⟩ | ⟨k1, k2⟩
  · refine ⟨rfl, rfl, ?_⟩
    generalize E a b = e at *
    unfold M at *
    omega
  · exfalso
    generalize E a b = e at *
    generalize E a' b' = e' at *
    unfold M at *
    omega
theorem fin_inj {x y : Nat} (hx : x < M) (hy : y < M) (nx : x ≠ M - 1) (ny : y ≠ M - 1) (h : fin x = fin y) : x = y := by
  unfold fin at h
  rw [if_neg nx, if_neg ny] at h
  unfold M at *
  split at h <;> split at h <;> omega
theorem fin_ne {x : Nat} (hx : x < M) (nx : x ≠ M - 1) : fin x ≠ -1 ∧ -9223372036854775808 ≤ fin x ∧ fin x < 9223372036854775808 := by
  unfold fin
  rw [if_neg nx]
  unfold M at *
  split <;> omega
end Hs
theorem hashInt_nat {c : Nat} (h : c < 10000) : hashInt (c : Int) = c := by
  unfold hashInt
  have e : rawHash (c : Int) = c := by
    unfold rawHash
    simp
    omega
  rw [e, if_neg]
  simp
def Hs.zz (h1 h2 h3 : Int) : Nat := (Hs.st (Hs.st (Hs.st Hs.P5 (h1 % ((Hs.M : Nat) : Int)).toNat) (h2 % ((Hs.M : Nat) : Int)).toNat) (h3 % ((Hs.M : Nat) : Int)).toNat + Hs.CC) % Hs.M
def Hs.stG (m p1 p2 acc h : Nat) : Nat := (((((acc + h * p2) % m) * 2 ^ 31) % m + ((acc + h * p2) % m) / 2 ^ 33) * p1) % m
def Hs.endG (m z : Nat) : Int := if z == m - 1 then 1546275796 else if z < 2 ^ 63 then z else (z : Int) - m
def Hs.tupG (m p1 p2 p5 c : Nat) (hashes : List Int) : Int := Hs.endG m ((hashes.foldl (init := p5) (fun acc h => Hs.stG m p1 p2 acc (h % (m : Int)).toNat) + c) % m)
theorem tupG_eq (hs : List Int) : Builtin.Tuple.tupleHashOf hs = Hs.tupG (2 ^ 64) 11400714785074694791 14029467366897019727 2870177450012600261 (hs.length ^^^ (2870177450012600261 ^^^ 3527539)) hs := rfl
theorem tupG3 (m p1 p2 p5 c : Nat) (h1 h2 h3 : Int) : Hs.tupG m p1 p2 p5 c [h1, h2, h3] = Hs.endG m ((Hs.stG m p1 p2 (Hs.stG m p1 p2 (Hs.stG m p1 p2 p5 (h1 % (m : Int)).toNat) (h2 % (m : Int)).toNat) (h3 % (m : Int)).toNat + c) % m) := by
  unfold Hs.tupG
  rw [List.foldl_cons, List.foldl_cons, List.foldl_cons, List.foldl_nil]
theorem p31 : (2 : Nat) ^ 31 = 2147483648 := by decide
theorem p33 : (2 : Nat) ^ 33 = 8589934592 := by decide
theorem p63 : (2 : Nat) ^ 63 = 9223372036854775808 := by decide
theorem stG_eq (acc h : Nat) : Hs.stG Hs.M Hs.P1 Hs.P2 acc h = Hs.st acc h := by
  unfold Hs.stG Hs.st Hs.rot
  rw [p31, p33]
theorem cc_eq (h1 h2 h3 : Int) : ([h1, h2, h3].length ^^^ (2870177450012600261 ^^^ 3527539)) = Hs.CC := by
  rw [show [h1, h2, h3].length = 3 from rfl]
  decide +kernel
theorem endG_eq (z : Nat) : Hs.endG Hs.M z = Hs.fin z := by
  unfold Hs.endG Hs.fin
  rw [p63]
  simp only [beq_iff_eq]
theorem tupR0 (h1 h2 h3 : Int) : Builtin.Tuple.tupleHashOf [h1, h2, h3] = Hs.fin (Hs.zz h1 h2 h3) := by
  rw [tupG_eq, cc_eq, show (2 : Nat) ^ 64 = Hs.M from rfl, show (11400714785074694791 : Nat) = Hs.P1 from rfl, show (14029467366897019727 : Nat) = Hs.P2 from rfl, show (2870177450012600261 : Nat) = Hs.P5 from rfl, tupG3, stG_eq, stG_eq, stG_eq, endG_eq]
  unfold Hs.zz
  rfl
theorem zz_nat {a b c : Nat} (ha : a < 10000) (hb : b < 10000) (hc : c < 10000) : Hs.zz a b c = Hs.zed ((Hs.acc2 a b + c * Hs.P2) % Hs.M) := by
  have e : ∀ n : Nat, n < 10000 → ((n : Int) % ((Hs.M : Nat) : Int)).toNat = n := fun n h => by unfold Hs.M; omega
  unfold Hs.zz
  rw [e a ha, e b hb, e c hc]
  rfl
/-- a place: a mark, a number, a tag -/
def PlK (k : List Key) : Prop := ∃ a b c : Nat, k = [.inl (a : Int), .inl (b : Int), .inl (c : Int)] ∧ a < 2 ∧ b < 16 ∧ c < 9409
theorem hashK_pl {w : World} {a b c : Nat} (ha : a < 2) (hb : b < 16) (hc : c < 9409) : hashK w [.inl (a : Int), .inl (b : Int), .inl (c : Int)] = Hs.fin (Hs.zed ((Hs.acc2 a b + c * Hs.P2) % Hs.M)) := by
  unfold hashK
  show reduceHash (Builtin.Tuple.tupleHashOf [hashInt (a : Int), hashInt (b : Int), hashInt (c : Int)]) = _
  rw [hashInt_nat (by omega), hashInt_nat (by omega), hashInt_nat (by omega), tupR0, zz_nat (by omega) (by omega) (by omega)]
  have hz : Hs.zed ((Hs.acc2 a b + c * Hs.P2) % Hs.M) < Hs.M := Nat.mod_lt _ (by decide)
  obtain ⟨h1, h2, h3⟩ := Hs.fin_ne hz (Hs.zed_ne ha hb hc)
  generalize Hs.fin (Hs.zed ((Hs.acc2 a b + c * Hs.P2) % Hs.M)) = y at *
  unfold reduceHash
  rw [if_pos (by simp; omega), if_neg (by simpa using h1)]
theorem hashK_inj {w : World} {p q : List Key} (hp : PlK p) (hq : PlK q) (h : hashK w p = hashK w q) : p = q := by
  obtain ⟨a, b, c, rfl, h1, h2, h3⟩ := hp
  obtain ⟨a', b', c', rfl, h4, h5, h6⟩ := hq
  rw [hashK_pl h1 h2 h3, hashK_pl h4 h5 h6] at h
  have hz := Hs.fin_inj (Nat.mod_lt _ (by decide)) (Nat.mod_lt _ (by decide)) (Hs.zed_ne h1 h2 h3) (Hs.zed_ne h4 h5 h6) h
  obtain ⟨rfl, rfl, rfl⟩ := Hs.zed_inj h1 h2 h3 h4 h5 h6 hz
  rfl
theorem hashes_apart {w : World} : ∀ {ks : List (List Key)}, ks.Nodup → (∀ k ∈ ks, PlK k) → (ks.map (hashK w)).Nodup := fun hn hp => by
  rw [List.nodup_iff_pairwise_ne, List.pairwise_map]
  refine List.Pairwise.imp_of_mem ?_ hn
  intro a b ha hb hne e
  exact hne (hashK_inj (hp a ha) (hp b hb) e)
end D2

set_option Elab.async false
set_option linter.all false
set_option maxRecDepth 100000
set_option maxHeartbeats 4000000
namespace D2
open PySem PySem.Spec PyProof.Rows L2
section
variable {K : PySem.W.Frag} {E : XK} {ρ ρ' : Sls K} {te tv ta : TE} {t u : TS} {C x : Addr} {fs fs' : List (Str × Sl K)} {put : OwnA K → Sls K} {d r : PyData} {ds es zs : List PyData} {N : List Str}
theorem sd_appendQ (h : PL K te ρ (mlA K ds) put) (hv : ED K tv ρ d) (hl : ds.length + 1 ≤ LIM) (hz : ds ++ [d] = zs) : SD K E (tDrop (tBM K "list" rAppend te (tCons tv tNil))) ρ (.nx (put (mlA K zs))) := hz ▸ sd_appendP h hv hl
theorem sd_extendQ (h : PL K te ρ (mlA K ds) put) (hv : ED K tv ρ (.list es)) (hl : (ds ++ es).length ≤ LIM) (hz : ds ++ es = zs) : SD K E (tDrop (tBM K "list" rExtend te (tCons tv tNil))) ρ (.nx (put (mlA K zs))) := hz ▸ sd_extendP h hv hl
theorem mb_rs (h : SD K E t (startM x C fs ds N.length) (.rs r ρ')) (h0 : ρ'[0]? = some (.ow (insA K (some x) C fs'))) : MB K E t x C N fs ds r fs' := ⟨ρ', h0, .inl h⟩
theorem mb_nx (h : SD K E t (startM x C fs ds N.length) (.nx ρ')) (h0 : ρ'[0]? = some (.ow (insA K (some x) C fs'))) : MB K E t x C N fs ds .none fs' := ⟨ρ', h0, .inr ⟨rfl, h⟩⟩
/-- a known slot of an instance that is ours, at its wanted form -/
theorem SD.own0 {o o' : Out K} (h : SD K E t ρ o) (e : o = o') : SD K E t ρ o' := e ▸ h
end
/-- a thing or None -/
def optD {α : Type} (f : α → PyData) : Option α → PyData
  | .none => .none
  | .some x => f x
section
variable {K : PySem.W.Frag} {ρ : Sls K} {ta tb : TE} {α : Type} {f : α → PyData} {o : Option α}
theorem isN_opt (hf : ∀ x, ∃ ds, f x = .tuple ds) : ∀ G v, Rp K G (optD f o) v → decide (v = .non) = o.isNone := fun G v r => by
  cases o with
  | none => cases r; rfl
  | some x =>
    obtain ⟨ds, e⟩ := hf x
    have r' : Rp K G (.tuple ds) v := by rw [← e]; exact r
    obtain ⟨a, xs, rfl, _⟩ := r'
    rfl
theorem ed_isNo (hf : ∀ x, ∃ ds, f x = .tuple ds) (ha : ED K ta ρ (optD f o)) (hb : ED K tb ρ .none) : ED K (tOp (fun x y H Q => y = .non ∧ Q (.bl (decide (x = .non))) H) ta tb) ρ (.bool o.isNone) := ed_isN ha (isN_opt hf) hb
theorem ed_notNo (hf : ∀ x, ∃ ds, f x = .tuple ds) (ha : ED K ta ρ (optD f o)) (hb : ED K tb ρ .none) : ED K (tOp (fun x y H Q => y = .non ∧ Q (.bl (!decide (x = .non))) H) ta tb) ρ (.bool (!o.isNone)) := ed_op ha hb fun G H v w s hx hy Q q => by
  cases hy
  exact ⟨rfl, by rw [isN_opt hf G v hx]; exact q _ G H (Grow.refl s) rfl⟩
end
section
variable {X : Cx} {x : Str} {k : Nat} {R : List PyData → Res → Prop} {E : XK} {p pos : Pos} {P : Program} {w : World} {K : PySem.W.Frag} {mg : Str → Option Value} {base : Heap}
/-- f() -/
theorem pe_callD0 (h : DefOk P w K mg base x [] k R) (hr : Room k X.A) (hg : Gl X x) (hx : Passes (L2.CX X.prog X.w) X E) (hX : X.prog = P ∧ X.w = w ∧ X.K = K ∧ X.mg = mg ∧ X.base = base := by exact ⟨rfl, rfl, rfl, rfl, rfl⟩) (hdb : (x == ("__debug__" : Str)) = false := by decide) : PE X (.Call (.Name x p) [] [] pos) (tCall (spD K R) [] E tNil) := by
  obtain ⟨rfl, rfl, rfl, rfl, rfl⟩ := hX
  obtain ⟨f, fd, F, B, M, Kp⟩ := h.ex
  exact pe_call0 F hr hg M Kp B .nil hx hdb
end
end D2

set_option Elab.async false
set_option linter.all false
set_option maxRecDepth 100000
set_option maxHeartbeats 4000000
namespace D2
open PySem PySem.Spec PyProof.Rows L2
theorem with_it {p q : Prop} (h : p) (k : p → q) : q := k h
theorem int_mk {K : PySem.W.Frag} {h : Heap} {mg : Str → Option Value} {x : Str} {v : Value} {n : Int} (X : K.In h) (G : h.Ns mainGlobals mg) (a : PySem.W.nsIn K mainGlobals x = some (some v)) (e : ∃ t, v = .int n t) : ∃ t, mg x = some (.int n t) := by
  obtain ⟨t, rfl⟩ := e
  exact ⟨t, PySem.W.mg_of X G a⟩
theorem tup_mk2 {K : PySem.W.Frag} {h : Heap} {mg : Str → Option Value} {x : Str} {ws : List Str} {a : Addr} {o : Obj} (X : K.In h) (G : h.Ns mainGlobals mg) (g : PySem.W.nsIn K mainGlobals x = some (some (.ref a))) (l : K.lookup a = some o) (r : ∃ its n, o.cls = .type "tuple" ∧ o.data = .seq its n ∧ its.size ≤ sizeLine ∧ Vals (ws.map V.str) its.toList) : TupAt K mg x ws := by
  obtain ⟨its, n, h1, h2, h3, h4⟩ := r
  exact tup_at_mk (PySem.W.mg_of X G g) l h1 h2 h3 h4
/-! ### an exception of the class c is caught by «except h» -/
structure TryAt (K : PySem.W.Frag) (c h : Str) : Prop where
  ok : ∀ C D, ClsAt K c C → ClsAt K h D → PySem.W.exmOne K (.ref C) (.ref D) = some true ∧ ExcC K C
theorem exm_sub {K : PySem.W.Frag} {C S : Addr} (h1 : PySem.W.subIn K (.ref S) (.type "BaseException") = some true) (h2 : PySem.W.isClsIn K S = true) (h3 : PySem.W.typeIn K (.ref S) = some (.type "type")) (h4 : PySem.W.subIn K (.ref C) (.ref S) = some true) :
    PySem.W.exmOne K (.ref C) (.ref S) = some true := by
  have e1 : (PySem.W.subIn K (.ref S) (.type "BaseException") == some true) = true := by rw [h1] <;> rfl
  have e2 : ((PySem.W.clsIn K S).isSome && PySem.W.typeIn K (.ref S) == some (.type "type")) = true := by
    have h2' : (PySem.W.clsIn K S).isSome = true := h2
    rw [h2', h3] <;> rfl
  show (if (PySem.W.subIn K (.ref S) (.type "BaseException") == some true) = true then (if ((PySem.W.clsIn K S).isSome && PySem.W.typeIn K (.ref S) == some (.type "type")) = true then PySem.W.subIn K (.ref C) (.ref S) else none) else none) = some true
  rw [if_pos e1, if_pos e2]
  exact h4
theorem tryat_mk {K : PySem.W.Frag} {c h : Str} {C D : Addr} (a : PySem.W.nsIn K mainGlobals c = some (some (.ref C))) (b : PySem.W.nsIn K mainGlobals h = some (some (.ref D))) (h1 : PySem.W.subIn K (.ref D) (.type "BaseException") = some true) (h2 : PySem.W.isClsIn K D = true) (h3 : PySem.W.typeIn K (.ref D) = some (.type "type")) (h4 : PySem.W.subIn K (.ref C) (.ref D) = some true)
    (e1 : PySem.W.findIn K (.ref C) "__getattribute__" = some (some (.builtin "BaseException.__getattribute__"))) (e2 : PySem.W.findIn K (.ref C) "__getattr__" = some none) (e3 : PySem.W.subIn K (.ref C) (.type "BaseException") = some true) (e4 : PySem.W.hasDictIn K C = true)
    (e5 : PySem.W.findIn K (.ref C) "__class__" = some (some (.builtin "object.__class__"))) (e6 : PySem.W.specialIn K (.builtin "object.__class__") "__get__" = some (some (.builtin "getset_descriptor.__get__"))) (e7 : PySem.W.takesIn K (.builtin "object.__class__") = some true) (e8 : PySem.W.mroIn K C (.type "object") = some true) : TryAt K c h := ⟨fun C' D' hC hD => by
  have e : C' = C := ClsAt.inj hC a
  have e' : D' = D := ClsAt.inj hD b
  subst e; subst e'
  exact ⟨exm_sub h1 h2 h3 h4, ⟨e1, e2, e3, e4, e5, e6, e7, e8⟩⟩⟩
theorem TryAt.use {K : PySem.W.Frag} {mg : Str → Option Value} {c h : Str} (t : TryAt K c h) (xh : XAt K mg h) (xc : XAt K mg c) : ∀ C, ClsAt K c C → PySem.W.exmOne K (.ref C) (.ref xh.C) = some true ∧ ExcC K C ∧ PySem.W.kitOne K (.ref C) (.ref xc.C) = some true := fun C hC => by
  obtain ⟨h1, h2⟩ := t.ok C xh.C hC xh.f.at_
  refine ⟨h1, h2, ?_⟩
  have e : C = xc.C := hC.inj xc.f.at_
  rw [← e]
  unfold PySem.W.kitOne
  simp
end D2

set_option Elab.async false
set_option linter.all false
set_option maxRecDepth 100000
set_option maxHeartbeats 4000000
namespace Lw
open PySem PySem.Spec PyProof.Rows L2 D2
def topS (i : Nat) : Stmt := PySem.Challenge.pw_onionpost_k66_whole_friends_left.main.body.getD i (.Pass ⟨0, 0, 0, 0⟩)
def isInt : PyData → Bool
  | .int _ => true
  | _ => false
def isBool : PyData → Bool
  | .bool _ => true
  | _ => false
def isTup : PyData → Bool
  | .tuple _ => true
  | _ => false
theorem k_int (d : PyData) : kitB (tyOf d) "int" = some (isInt d || isBool d) := by cases d <;> rfl
theorem k_bool (d : PyData) : kitB (tyOf d) "bool" = some (isBool d) := by cases d <;> rfl
def isStrD : PyData → Bool
  | .str _ => true
  | _ => false
theorem k_str (d : PyData) : kitB (tyOf d) "str" = some (isStrD d) := by cases d <;> rfl
theorem k_tuple (d : PyData) : kitB (tyOf d) "tuple" = some (isTup d) := by cases d <;> rfl
abbrev st_is_integer : Stmt := topS 9
abbrev N_is_integer : List Str := ["thing"]
theorem sc_is_integer : FnScope N_is_integer ["thing"] (defScope st_is_integer) := ⟨rfl, rfl, rfl, by decide +kernel, rfl, by decide +kernel, by decide +kernel⟩
abbrev st_is_between : Stmt := topS 10
abbrev N_is_between : List Str := ["thing", "least", "most"]
theorem sc_is_between : FnScope N_is_between ["thing", "least", "most"] (defScope st_is_between) := ⟨rfl, rfl, rfl, by decide +kernel, rfl, by decide +kernel, by decide +kernel⟩
abbrev st_is_under : Stmt := topS 11
abbrev N_is_under : List Str := ["thing", "many"]
theorem sc_is_under : FnScope N_is_under ["thing", "many"] (defScope st_is_under) := ⟨rfl, rfl, rfl, by decide +kernel, rfl, by decide +kernel, by decide +kernel⟩
abbrev st_is_tuple_of : Stmt := topS 12
abbrev N_is_tuple_of : List Str := ["thing", "many"]
theorem sc_is_tuple_of : FnScope N_is_tuple_of ["thing", "many"] (defScope st_is_tuple_of) := ⟨rfl, rfl, rfl, by decide +kernel, rfl, by decide +kernel, by decide +kernel⟩
abbrev st_are_under : Stmt := topS 13
abbrev N_are_under : List Str := ["thing", "many", "one"]
theorem sc_are_under : FnScope N_are_under ["thing", "many"] (defScope st_are_under) := ⟨rfl, rfl, rfl, by decide +kernel, rfl, by decide +kernel, by decide +kernel⟩
abbrev st_is_lot : Stmt := topS 14
abbrev N_is_lot : List Str := ["thing", "many", "at"]
theorem sc_is_lot : FnScope N_is_lot ["thing", "many"] (defScope st_is_lot) := ⟨rfl, rfl, rfl, by decide +kernel, rfl, by decide +kernel, by decide +kernel⟩
abbrev st_unlike : Stmt := topS 15
abbrev N_unlike : List Str := ["things"]
theorem sc_unlike : FnScope N_unlike ["things"] (defScope st_unlike) := ⟨rfl, rfl, rfl, by decide +kernel, rfl, by decide +kernel, by decide +kernel⟩
abbrev st_are_seen : Stmt := topS 19
abbrev N_are_seen : List Str := ["many", "thing", "lot"]
theorem sc_are_seen : FnScope N_are_seen ["many", "thing"] (defScope st_are_seen) := ⟨rfl, rfl, rfl, by decide +kernel, rfl, by decide +kernel, by decide +kernel⟩
abbrev st_need_seen : Stmt := topS 20
abbrev N_need_seen : List Str := ["many", "size", "thing"]
theorem sc_need_seen : FnScope N_need_seen ["many", "size", "thing"] (defScope st_need_seen) := ⟨rfl, rfl, rfl, by decide +kernel, rfl, by decide +kernel, by decide +kernel⟩
abbrev st_lots_of : Stmt := topS 21
abbrev N_lots_of : List Str := ["many", "size", "found", "_", "lot", "one"]
theorem sc_lots_of : FnScope N_lots_of ["many", "size"] (defScope st_lots_of) := ⟨rfl, rfl, rfl, by decide +kernel, rfl, by decide +kernel, by decide +kernel⟩
abbrev st_meets : Stmt := topS 22
abbrev N_meets : List Str := ["lot", "other", "one"]
theorem sc_meets : FnScope N_meets ["lot", "other"] (defScope st_meets) := ⟨rfl, rfl, rfl, by decide +kernel, rfl, by decide +kernel, by decide +kernel⟩
abbrev st_left_lots : Stmt := topS 23
abbrev N_left_lots : List Str := ["many", "size", "rounds", "lot", "seen"]
theorem sc_left_lots : FnScope N_left_lots ["many", "size", "rounds"] (defScope st_left_lots) := ⟨rfl, rfl, rfl, by decide +kernel, rfl, by decide +kernel, by decide +kernel⟩
abbrev st_friend_lots : Stmt := topS 24
abbrev N_friend_lots : List Str := ["many", "size", "rounds"]
theorem sc_friend_lots : FnScope N_friend_lots ["many", "size", "rounds"] (defScope st_friend_lots) := ⟨rfl, rfl, rfl, by decide +kernel, rfl, by decide +kernel, by decide +kernel⟩
abbrev st_sure_friends : Stmt := topS 25
abbrev N_sure_friends : List Str := ["many", "size", "rounds", "lots", "person", "lot"]
theorem sc_sure_friends : FnScope N_sure_friends ["many", "size", "rounds"] (defScope st_sure_friends) := ⟨rfl, rfl, rfl, by decide +kernel, rfl, by decide +kernel, by decide +kernel⟩
abbrev st_cleared : Stmt := topS 26
abbrev N_cleared : List Str := ["many", "size", "rounds", "lots", "person", "lot"]
theorem sc_cleared : FnScope N_cleared ["many", "size", "rounds"] (defScope st_cleared) := ⟨rfl, rfl, rfl, by decide +kernel, rfl, by decide +kernel, by decide +kernel⟩
abbrev st_is_known : Stmt := topS 27
abbrev N_is_known : List Str := ["many", "size", "rounds"]
theorem sc_is_known : FnScope N_is_known ["many", "size", "rounds"] (defScope st_is_known) := ⟨rfl, rfl, rfl, by decide +kernel, rfl, by decide +kernel, by decide +kernel⟩
abbrev st_least_size : Stmt := topS 28
abbrev N_least_size : List Str := ["many", "rounds", "size"]
theorem sc_least_size : FnScope N_least_size ["many", "rounds"] (defScope st_least_size) := ⟨rfl, rfl, rfl, by decide +kernel, rfl, by decide +kernel, by decide +kernel⟩
abbrev st_rounds_enough : Stmt := topS 29
abbrev N_rounds_enough : List Str := ["many", "size", "rounds", "number"]
theorem sc_rounds_enough : FnScope N_rounds_enough ["many", "size", "rounds"] (defScope st_rounds_enough) := ⟨rfl, rfl, rfl, by decide +kernel, rfl, by decide +kernel, by decide +kernel⟩
abbrev st_two_left : Stmt := topS 30
abbrev N_two_left : List Str := ["many", "size", "rounds", "lots"]
theorem sc_two_left : FnScope N_two_left ["many", "size", "rounds"] (defScope st_two_left) := ⟨rfl, rfl, rfl, by decide +kernel, rfl, by decide +kernel, by decide +kernel⟩
abbrev st_spare_rounds : Stmt := topS 31
abbrev N_spare_rounds : List Str := ["many", "size", "rounds", "due", "found", "number"]
theorem sc_spare_rounds : FnScope N_spare_rounds ["many", "size", "rounds"] (defScope st_spare_rounds) := ⟨rfl, rfl, rfl, by decide +kernel, rfl, by decide +kernel, by decide +kernel⟩
abbrev st_parts_of : Stmt := topS 32
abbrev N_parts_of : List Str := ["many", "size", "rounds", "lots", "person", "lot"]
theorem sc_parts_of : FnScope N_parts_of ["many", "size", "rounds"] (defScope st_parts_of) := ⟨rfl, rfl, rfl, by decide +kernel, rfl, by decide +kernel, by decide +kernel⟩
abbrev st_is_row : Stmt := topS 36
abbrev N_is_row : List Str := ["many", "thing", "one"]
theorem sc_is_row : FnScope N_is_row ["many", "thing"] (defScope st_is_row) := ⟨rfl, rfl, rfl, by decide +kernel, rfl, by decide +kernel, by decide +kernel⟩
abbrev st_over : Stmt := topS 37
abbrev N_over : List Str := ["one", "other", "mine", "yours"]
theorem sc_over : FnScope N_over ["one", "other"] (defScope st_over) := ⟨rfl, rfl, rfl, by decide +kernel, rfl, by decide +kernel, by decide +kernel⟩
abbrev st_off : Stmt := topS 38
abbrev N_off : List Str := ["one", "other", "mine", "yours"]
theorem sc_off : FnScope N_off ["one", "other"] (defScope st_off) := ⟨rfl, rfl, rfl, by decide +kernel, rfl, by decide +kernel, by decide +kernel⟩
abbrev st_grown : Stmt := topS 39
abbrev N_grown : List Str := ["seed", "many", "found", "here", "_"]
theorem sc_grown : FnScope N_grown ["seed", "many"] (defScope st_grown) := ⟨rfl, rfl, rfl, by decide +kernel, rfl, by decide +kernel, by decide +kernel⟩
abbrev st_tag_numbers : Stmt := topS 40
abbrev N_tag_numbers : List Str := ["tag"]
theorem sc_tag_numbers : FnScope N_tag_numbers ["tag"] (defScope st_tag_numbers) := ⟨rfl, rfl, rfl, by decide +kernel, rfl, by decide +kernel, by decide +kernel⟩
abbrev st_is_tag : Stmt := topS 41
abbrev N_is_tag : List Str := ["thing"]
theorem sc_is_tag : FnScope N_is_tag ["thing"] (defScope st_is_tag) := ⟨rfl, rfl, rfl, by decide +kernel, rfl, by decide +kernel, by decide +kernel⟩
abbrev st_is_condition : Stmt := topS 47
abbrev N_is_condition : List Str := ["thing"]
theorem sc_is_condition : FnScope N_is_condition ["thing"] (defScope st_is_condition) := ⟨rfl, rfl, rfl, by decide +kernel, rfl, by decide +kernel, by decide +kernel⟩
abbrev st_is_rule_row : Stmt := topS 48
abbrev N_is_rule_row : List Str := ["thing", "one"]
theorem sc_is_rule_row : FnScope N_is_rule_row ["thing"] (defScope st_is_rule_row) := ⟨rfl, rfl, rfl, by decide +kernel, rfl, by decide +kernel, by decide +kernel⟩
abbrev st_is_rule : Stmt := topS 49
abbrev N_is_rule : List Str := ["thing", "row"]
theorem sc_is_rule : FnScope N_is_rule ["thing"] (defScope st_is_rule) := ⟨rfl, rfl, rfl, by decide +kernel, rfl, by decide +kernel, by decide +kernel⟩
abbrev st_holds : Stmt := topS 50
abbrev N_holds : List Str := ["condition", "waiting", "oldest", "tick"]
theorem sc_holds : FnScope N_holds ["condition", "waiting", "oldest", "tick"] (defScope st_holds) := ⟨rfl, rfl, rfl, by decide +kernel, rfl, by decide +kernel, by decide +kernel⟩
abbrev st_sent_by : Stmt := topS 51
abbrev N_sent_by : List Str := ["rule", "waiting", "oldest", "tick", "conditions", "many", "one"]
theorem sc_sent_by : FnScope N_sent_by ["rule", "waiting", "oldest", "tick"] (defScope st_sent_by) := ⟨rfl, rfl, rfl, by decide +kernel, rfl, by decide +kernel, by decide +kernel⟩
abbrev st_is_net : Stmt := topS 63
abbrev N_is_net : List Str := ["thing", "stage", "one"]
theorem sc_is_net : FnScope N_is_net ["thing"] (defScope st_is_net) := ⟨rfl, rfl, rfl, by decide +kernel, rfl, by decide +kernel, by decide +kernel⟩
abbrev st_need_net : Stmt := topS 64
abbrev N_need_net : List Str := ["thing"]
theorem sc_need_net : FnScope N_need_net ["thing"] (defScope st_need_net) := ⟨rfl, rfl, rfl, by decide +kernel, rfl, by decide +kernel, by decide +kernel⟩
abbrev st_host_count : Stmt := topS 65
abbrev N_host_count : List Str := ["net", "stage"]
theorem sc_host_count : FnScope N_host_count ["net"] (defScope st_host_count) := ⟨rfl, rfl, rfl, by decide +kernel, rfl, by decide +kernel, by decide +kernel⟩
abbrev st_stage_by : Stmt := topS 66
abbrev N_stage_by : List Str := ["net", "host", "last", "number", "stage"]
theorem sc_stage_by : FnScope N_stage_by ["net", "host"] (defScope st_stage_by) := ⟨rfl, rfl, rfl, by decide +kernel, rfl, by decide +kernel, by decide +kernel⟩
abbrev st_hosts_by : Stmt := topS 67
abbrev N_hosts_by : List Str := ["net", "stage", "first", "one"]
theorem sc_hosts_by : FnScope N_hosts_by ["net", "stage"] (defScope st_hosts_by) := ⟨rfl, rfl, rfl, by decide +kernel, rfl, by decide +kernel, by decide +kernel⟩
abbrev st_rule_by : Stmt := topS 68
abbrev N_rule_by : List Str := ["net", "host", "stage", "rule"]
theorem sc_rule_by : FnScope N_rule_by ["net", "host"] (defScope st_rule_by) := ⟨rfl, rfl, rfl, by decide +kernel, rfl, by decide +kernel, by decide +kernel⟩
abbrev st_long_of : Stmt := topS 69
abbrev N_long_of : List Str := ["net"]
theorem sc_long_of : FnScope N_long_of ["net"] (defScope st_long_of) := ⟨rfl, rfl, rfl, by decide +kernel, rfl, by decide +kernel, by decide +kernel⟩
abbrev st_is_route : Stmt := topS 70
abbrev N_is_route : List Str := ["net", "thing", "stage", "host"]
theorem sc_is_route : FnScope N_is_route ["net", "thing"] (defScope st_is_route) := ⟨rfl, rfl, rfl, by decide +kernel, rfl, by decide +kernel, by decide +kernel⟩
abbrev st_is_way : Stmt := topS 71
abbrev N_is_way : List Str := ["net", "route", "reader", "tags", "tag"]
theorem sc_is_way : FnScope N_is_way ["net", "route", "reader", "tags"] (defScope st_is_way) := ⟨rfl, rfl, rfl, by decide +kernel, rfl, by decide +kernel, by decide +kernel⟩
abbrev st_is_order : Stmt := topS 72
abbrev N_is_order : List Str := ["net", "thing"]
theorem sc_is_order : FnScope N_is_order ["net", "thing"] (defScope st_is_order) := ⟨rfl, rfl, rfl, by decide +kernel, rfl, by decide +kernel, by decide +kernel⟩
abbrev st_places_of : Stmt := topS 73
abbrev N_places_of : List Str := ["route", "reader", "tags", "places", "place", "tag", "host"]
theorem sc_places_of : FnScope N_places_of ["route", "reader", "tags"] (defScope st_places_of) := ⟨rfl, rfl, rfl, by decide +kernel, rfl, by decide +kernel, by decide +kernel⟩
abbrev st_order_places : Stmt := topS 74
abbrev N_order_places : List Str := ["order"]
theorem sc_order_places : FnScope N_order_places ["order"] (defScope st_order_places) := ⟨rfl, rfl, rfl, by decide +kernel, rfl, by decide +kernel, by decide +kernel⟩
abbrev st_are_orders : Stmt := topS 75
abbrev N_are_orders : List Str := ["net", "thing", "order", "place"]
theorem sc_are_orders : FnScope N_are_orders ["net", "thing"] (defScope st_are_orders) := ⟨rfl, rfl, rfl, by decide +kernel, rfl, by decide +kernel, by decide +kernel⟩
abbrev st_need_orders : Stmt := topS 76
abbrev N_need_orders : List Str := ["net", "orders"]
theorem sc_need_orders : FnScope N_need_orders ["net", "orders"] (defScope st_need_orders) := ⟨rfl, rfl, rfl, by decide +kernel, rfl, by decide +kernel, by decide +kernel⟩
abbrev st_is_place : Stmt := topS 77
abbrev N_is_place : List Str := ["net", "thing"]
theorem sc_is_place : FnScope N_is_place ["net", "thing"] (defScope st_is_place) := ⟨rfl, rfl, rfl, by decide +kernel, rfl, by decide +kernel, by decide +kernel⟩
abbrev st_is_secrets : Stmt := topS 78
abbrev N_is_secrets : List Str := ["net", "thing", "pad", "place"]
theorem sc_is_secrets : FnScope N_is_secrets ["net", "thing"] (defScope st_is_secrets) := ⟨rfl, rfl, rfl, by decide +kernel, rfl, by decide +kernel, by decide +kernel⟩
abbrev st_need_secrets : Stmt := topS 79
abbrev N_need_secrets : List Str := ["net", "secrets"]
theorem sc_need_secrets : FnScope N_need_secrets ["net", "secrets"] (defScope st_need_secrets) := ⟨rfl, rfl, rfl, by decide +kernel, rfl, by decide +kernel, by decide +kernel⟩
abbrev st_need_ready : Stmt := topS 80
abbrev N_need_ready : List Str := ["net", "secrets", "orders", "order", "place"]
theorem sc_need_ready : FnScope N_need_ready ["net", "secrets", "orders"] (defScope st_need_ready) := ⟨rfl, rfl, rfl, by decide +kernel, rfl, by decide +kernel, by decide +kernel⟩
abbrev st_made_secrets : Stmt := topS 81
abbrev N_made_secrets : List Str := ["net", "orders", "seed", "found", "order", "place", "number"]
theorem sc_made_secrets : FnScope N_made_secrets ["net", "orders", "seed"] (defScope st_made_secrets) := ⟨rfl, rfl, rfl, by decide +kernel, rfl, by decide +kernel, by decide +kernel⟩
abbrev st_is_text : Stmt := topS 83
abbrev N_is_text : List Str := ["net", "thing"]
theorem sc_is_text : FnScope N_is_text ["net", "thing"] (defScope st_is_text) := ⟨rfl, rfl, rfl, by decide +kernel, rfl, by decide +kernel, by decide +kernel⟩
abbrev st_heads_of : Stmt := topS 84
abbrev N_heads_of : List Str := ["order", "ahead", "there", "tag"]
theorem sc_heads_of : FnScope N_heads_of ["order"] (defScope st_heads_of) := ⟨rfl, rfl, rfl, by decide +kernel, rfl, by decide +kernel, by decide +kernel⟩
abbrev st_tail_of : Stmt := topS 85
abbrev N_tail_of : List Str := ["long", "pads", "tail", "pad"]
theorem sc_tail_of : FnScope N_tail_of ["long", "pads"] (defScope st_tail_of) := ⟨rfl, rfl, rfl, by decide +kernel, rfl, by decide +kernel, by decide +kernel⟩
abbrev st_bodies_of : Stmt := topS 86
abbrev N_bodies_of : List Str := ["net", "secrets", "order", "long", "pads", "body", "found", "head", "pad", "place"]
theorem sc_bodies_of : FnScope N_bodies_of ["net", "secrets", "order"] (defScope st_bodies_of) := ⟨rfl, rfl, rfl, by decide +kernel, rfl, by decide +kernel, by decide +kernel⟩
abbrev st_texts_by : Stmt := topS 87
abbrev N_texts_by : List Str := ["net", "secrets", "order"]
theorem sc_texts_by : FnScope N_texts_by ["net", "secrets", "order"] (defScope st_texts_by) := ⟨rfl, rfl, rfl, by decide +kernel, rfl, by decide +kernel, by decide +kernel⟩
abbrev st_peeled_by : Stmt := topS 88
abbrev N_peeled_by : List Str := ["net", "pad", "text", "long", "plain"]
theorem sc_peeled_by : FnScope N_peeled_by ["net", "pad", "text"] (defScope st_peeled_by) := ⟨rfl, rfl, rfl, by decide +kernel, rfl, by decide +kernel, by decide +kernel⟩
abbrev st_next_place : Stmt := topS 89
abbrev N_next_place : List Str := ["net", "stage", "number"]
theorem sc_next_place : FnScope N_next_place ["net", "stage", "number"] (defScope st_next_place) := ⟨rfl, rfl, rfl, by decide +kernel, rfl, by decide +kernel, by decide +kernel⟩
abbrev st_is_posting : Stmt := topS 95
abbrev N_is_posting : List Str := ["net", "thing"]
theorem sc_is_posting : FnScope N_is_posting ["net", "thing"] (defScope st_is_posting) := ⟨rfl, rfl, rfl, by decide +kernel, rfl, by decide +kernel, by decide +kernel⟩
abbrev st_are_postings : Stmt := topS 96
abbrev N_are_postings : List Str := ["net", "thing", "one"]
theorem sc_are_postings : FnScope N_are_postings ["net", "thing"] (defScope st_are_postings) := ⟨rfl, rfl, rfl, by decide +kernel, rfl, by decide +kernel, by decide +kernel⟩
abbrev st_is_fault : Stmt := topS 97
abbrev N_is_fault : List Str := ["net", "thing"]
theorem sc_is_fault : FnScope N_is_fault ["net", "thing"] (defScope st_is_fault) := ⟨rfl, rfl, rfl, by decide +kernel, rfl, by decide +kernel, by decide +kernel⟩
abbrev st_are_faults : Stmt := topS 98
abbrev N_are_faults : List Str := ["net", "thing", "one"]
theorem sc_are_faults : FnScope N_are_faults ["net", "thing"] (defScope st_are_faults) := ⟨rfl, rfl, rfl, by decide +kernel, rfl, by decide +kernel, by decide +kernel⟩
abbrev st_need_run : Stmt := topS 99
abbrev N_need_run : List Str := ["net", "secrets", "postings", "faults", "ticks"]
theorem sc_need_run : FnScope N_need_run ["net", "secrets", "postings", "faults", "ticks"] (defScope st_need_run) := ⟨rfl, rfl, rfl, by decide +kernel, rfl, by decide +kernel, by decide +kernel⟩
abbrev st_Host___init__ : Stmt := inClass (topS 100) 0
abbrev N_Host___init__ : List Str := ["self", "net", "host"]
theorem sc_Host___init__ : FnScope N_Host___init__ ["self", "net", "host"] (defScope st_Host___init__) := ⟨rfl, rfl, rfl, by decide +kernel, rfl, by decide +kernel, by decide +kernel⟩
abbrev st_Host_leaving : Stmt := inClass (topS 100) 1
abbrev N_Host_leaving : List Str := ["self", "tick", "texts", "oldest", "many", "found", "text", "_"]
theorem sc_Host_leaving : FnScope N_Host_leaving ["self", "tick", "texts"] (defScope st_Host_leaving) := ⟨rfl, rfl, rfl, by decide +kernel, rfl, by decide +kernel, by decide +kernel⟩
abbrev st_Host_sends : Stmt := inClass (topS 100) 2
abbrev N_Host_sends : List Str := ["self", "secrets", "text", "place", "number", "there", "goal"]
theorem sc_Host_sends : FnScope N_Host_sends ["self", "secrets", "text"] (defScope st_Host_sends) := ⟨rfl, rfl, rfl, by decide +kernel, rfl, by decide +kernel, by decide +kernel⟩
abbrev st_spoilt : Stmt := topS 101
abbrev N_spoilt : List Str := ["net", "outs", "faults", "kept", "_", "word", "number", "goal", "text", "changed"]
theorem sc_spoilt : FnScope N_spoilt ["net", "outs", "faults", "kept"] (defScope st_spoilt) := ⟨rfl, rfl, rfl, by decide +kernel, rfl, by decide +kernel, by decide +kernel⟩
abbrev st_Run___init__ : Stmt := inClass (topS 102) 0
abbrev N_Run___init__ : List Str := ["self", "net", "secrets", "postings", "faults", "host"]
theorem sc_Run___init__ : FnScope N_Run___init__ ["self", "net", "secrets", "postings", "faults"] (defScope st_Run___init__) := ⟨rfl, rfl, rfl, by decide +kernel, rfl, by decide +kernel, by decide +kernel⟩
abbrev st_Run_posted : Stmt := inClass (topS 102) 1
abbrev N_Run_posted : List Str := ["self", "tick", "when", "writer", "host", "text"]
theorem sc_Run_posted : FnScope N_Run_posted ["self", "tick"] (defScope st_Run_posted) := ⟨rfl, rfl, rfl, by decide +kernel, rfl, by decide +kernel, by decide +kernel⟩
abbrev st_Run_host_step : Stmt := inClass (topS 102) 2
abbrev N_Run_host_step : List Str := ["self", "host", "tick", "texts", "gone", "outs", "mine", "_", "goal", "text", "fault", "one"]
theorem sc_Run_host_step : FnScope N_Run_host_step ["self", "host", "tick"] (defScope st_Run_host_step) := ⟨rfl, rfl, rfl, by decide +kernel, rfl, by decide +kernel, by decide +kernel⟩
abbrev st_Run_step : Stmt := inClass (topS 102) 3
abbrev N_Run_step : List Str := ["self", "tick", "here", "host", "_", "goal", "text"]
theorem sc_Run_step : FnScope N_Run_step ["self", "tick"] (defScope st_Run_step) := ⟨rfl, rfl, rfl, by decide +kernel, rfl, by decide +kernel, by decide +kernel⟩
abbrev st_run_by : Stmt := topS 103
abbrev N_run_by : List Str := ["net", "secrets", "postings", "faults", "ticks", "run", "tick"]
theorem sc_run_by : FnScope N_run_by ["net", "secrets", "postings", "faults", "ticks"] (defScope st_run_by) := ⟨rfl, rfl, rfl, by decide +kernel, rfl, by decide +kernel, by decide +kernel⟩
abbrev st_Told___init__ : Stmt := inClass (topS 104) 0
abbrev N_Told___init__ : List Str := ["self", "run", "host"]
theorem sc_Told___init__ : FnScope N_Told___init__ ["self", "run"] (defScope st_Told___init__) := ⟨rfl, rfl, rfl, by decide +kernel, rfl, by decide +kernel, by decide +kernel⟩
abbrev st_Told_log : Stmt := inClass (topS 104) 1
abbrev N_Told_log : List Str := ["self"]
theorem sc_Told_log : FnScope N_Told_log ["self"] (defScope st_Told_log) := ⟨rfl, rfl, rfl, by decide +kernel, rfl, by decide +kernel, by decide +kernel⟩
abbrev st_Told_batches : Stmt := inClass (topS 104) 2
abbrev N_Told_batches : List Str := ["self"]
theorem sc_Told_batches : FnScope N_Told_batches ["self"] (defScope st_Told_batches) := ⟨rfl, rfl, rfl, by decide +kernel, rfl, by decide +kernel, by decide +kernel⟩
abbrev st_Told_came : Stmt := inClass (topS 104) 3
abbrev N_Told_came : List Str := ["self"]
theorem sc_Told_came : FnScope N_Told_came ["self"] (defScope st_Told_came) := ⟨rfl, rfl, rfl, by decide +kernel, rfl, by decide +kernel, by decide +kernel⟩
abbrev st_Told_waiting : Stmt := inClass (topS 104) 4
abbrev N_Told_waiting : List Str := ["self"]
theorem sc_Told_waiting : FnScope N_Told_waiting ["self"] (defScope st_Told_waiting) := ⟨rfl, rfl, rfl, by decide +kernel, rfl, by decide +kernel, by decide +kernel⟩
abbrev st_led : Stmt := topS 105
abbrev N_led : List Str := ["net", "secrets", "postings", "faults", "ticks"]
theorem sc_led : FnScope N_led ["net", "secrets", "postings", "faults", "ticks"] (defScope st_led) := ⟨rfl, rfl, rfl, by decide +kernel, rfl, by decide +kernel, by decide +kernel⟩
abbrev st_postings_by : Stmt := topS 106
abbrev N_postings_by : List Str := ["net", "secrets", "orders", "order"]
theorem sc_postings_by : FnScope N_postings_by ["net", "secrets", "orders"] (defScope st_postings_by) := ⟨rfl, rfl, rfl, by decide +kernel, rfl, by decide +kernel, by decide +kernel⟩
abbrev st_postings_of : Stmt := topS 107
abbrev N_postings_of : List Str := ["net", "secrets", "orders"]
theorem sc_postings_of : FnScope N_postings_of ["net", "secrets", "orders"] (defScope st_postings_of) := ⟨rfl, rfl, rfl, by decide +kernel, rfl, by decide +kernel, by decide +kernel⟩
abbrev st__law_rules : Stmt := topS 109
abbrev N__law_rules : List Str := []
theorem sc__law_rules : FnScope N__law_rules [] (defScope st__law_rules) := ⟨rfl, rfl, rfl, by decide +kernel, rfl, by decide +kernel, by decide +kernel⟩
abbrev st__law_hosts : Stmt := topS 110
abbrev N__law_hosts : List Str := ["net", "stage", "first", "one"]
theorem sc__law_hosts : FnScope N__law_hosts ["net", "stage"] (defScope st__law_hosts) := ⟨rfl, rfl, rfl, by decide +kernel, rfl, by decide +kernel, by decide +kernel⟩
abbrev st__law_mixed : Stmt := topS 111
abbrev N__law_mixed : List Str := ["cell", "k", "first"]
theorem sc__law_mixed : FnScope N__law_mixed ["cell", "k"] (defScope st__law_mixed) := ⟨rfl, rfl, rfl, by decide +kernel, rfl, by decide +kernel, by decide +kernel⟩
abbrev st__law_net : Stmt := topS 112
abbrev N__law_net : List Str := ["cell", "digits", "rules", "stages", "k", "j"]
theorem sc__law_net : FnScope N__law_net ["cell"] (defScope st__law_net) := ⟨rfl, rfl, rfl, by decide +kernel, rfl, by decide +kernel, by decide +kernel⟩
abbrev st__law_orders : Stmt := topS 113
abbrev N__law_orders : List Str := ["cell", "more", "net", "most", "digits", "marks", "found", "k", "route", "tags", "content", "j"]
theorem sc__law_orders : FnScope N__law_orders ["cell", "more", "net", "most"] (defScope st__law_orders) := ⟨rfl, rfl, rfl, by decide +kernel, rfl, by decide +kernel, by decide +kernel⟩
abbrev st__law_ways : Stmt := topS 114
abbrev N__law_ways : List Str := ["orders", "order"]
theorem sc__law_ways : FnScope N__law_ways ["orders"] (defScope st__law_ways) := ⟨rfl, rfl, rfl, by decide +kernel, rfl, by decide +kernel, by decide +kernel⟩
abbrev st__law_row : Stmt := topS 115
abbrev N__law_row : List Str := ["cell", "many", "top", "found", "left", "great", "k"]
theorem sc__law_row : FnScope N__law_row ["cell", "many", "top"] (defScope st__law_row) := ⟨rfl, rfl, rfl, by decide +kernel, rfl, by decide +kernel, by decide +kernel⟩
abbrev st__law_at : Stmt := topS 116
abbrev N__law_at : List Str := ["script", "k"]
theorem sc__law_at : FnScope N__law_at ["script", "k"] (defScope st__law_at) := ⟨rfl, rfl, rfl, by decide +kernel, rfl, by decide +kernel, by decide +kernel⟩
abbrev st__law_flag : Stmt := topS 117
abbrev N__law_flag : List Str := ["found", "due"]
theorem sc__law_flag : FnScope N__law_flag ["found", "due"] (defScope st__law_flag) := ⟨rfl, rfl, rfl, by decide +kernel, rfl, by decide +kernel, by decide +kernel⟩
abbrev st__law_post : Stmt := topS 118
abbrev N__law_post : List Str := ["script", "at", "most", "net", "orders", "secrets", "told"]
theorem sc__law_post : FnScope N__law_post ["script", "at", "most"] (defScope st__law_post) := ⟨rfl, rfl, rfl, by decide +kernel, rfl, by decide +kernel, by decide +kernel⟩
abbrev st__law_lots : Stmt := topS 119
abbrev N__law_lots : List Str := ["many", "size", "found", "k", "lot"]
theorem sc__law_lots : FnScope N__law_lots ["many", "size"] (defScope st__law_lots) := ⟨rfl, rfl, rfl, by decide +kernel, rfl, by decide +kernel, by decide +kernel⟩
abbrev st__law_left : Stmt := topS 120
abbrev N__law_left : List Str := ["many", "size", "rounds", "lot", "seen", "one"]
theorem sc__law_left : FnScope N__law_left ["many", "size", "rounds"] (defScope st__law_left) := ⟨rfl, rfl, rfl, by decide +kernel, rfl, by decide +kernel, by decide +kernel⟩
abbrev st__law_refused : Stmt := topS 121
abbrev N__law_refused : List Str := ["many", "size", "rounds", "wrong"]
theorem sc__law_refused : FnScope N__law_refused ["many", "size", "rounds"] (defScope st__law_refused) := ⟨rfl, rfl, rfl, by decide +kernel, rfl, by decide +kernel, by decide +kernel⟩
abbrev st_law : Stmt := topS 122
abbrev N_law : List Str := ["script", "digits", "many", "size", "marks", "rounds", "k", "left", "sure", "due", "friends", "seen", "world", "mine", "got", "thing", "j", "order", "one", "lot"]
theorem sc_law : FnScope N_law ["script"] (defScope st_law) := ⟨rfl, rfl, rfl, by decide +kernel, rfl, by decide +kernel, by decide +kernel⟩
structure Txt (K : PySem.W.Frag) (mg : Str → Option Value) : Prop where
  k_Host : KAt K mg "Host" ["net", "host", "rule", "waiting", "used"]
  k_Run : KAt K mg "Run" ["net", "secrets", "postings", "faults", "hosts", "coming", "lines", "batches", "letters", "kept"]
  k_Told : KAt K mg "Told" ["lines", "done", "letters", "left"]
  d_is_integer : DefAt K mg "is_integer" st_is_integer ["thing"]
  d_is_between : DefAt K mg "is_between" st_is_between ["thing", "least", "most"]
  d_is_under : DefAt K mg "is_under" st_is_under ["thing", "many"]
  d_is_tuple_of : DefAt K mg "is_tuple_of" st_is_tuple_of ["thing", "many"]
  d_are_under : DefAt K mg "are_under" st_are_under ["thing", "many"]
  d_is_lot : DefAt K mg "is_lot" st_is_lot ["thing", "many"]
  d_unlike : DefAt K mg "unlike" st_unlike ["things"]
  d_are_seen : DefAt K mg "are_seen" st_are_seen ["many", "thing"]
  d_need_seen : DefAt K mg "need_seen" st_need_seen ["many", "size", "thing"]
  d_lots_of : DefAt K mg "lots_of" st_lots_of ["many", "size"]
  d_meets : DefAt K mg "meets" st_meets ["lot", "other"]
  d_left_lots : DefAt K mg "left_lots" st_left_lots ["many", "size", "rounds"]
  d_friend_lots : DefAt K mg "friend_lots" st_friend_lots ["many", "size", "rounds"]
  d_sure_friends : DefAt K mg "sure_friends" st_sure_friends ["many", "size", "rounds"]
  d_cleared : DefAt K mg "cleared" st_cleared ["many", "size", "rounds"]
  d_is_known : DefAt K mg "is_known" st_is_known ["many", "size", "rounds"]
  d_least_size : DefAt K mg "least_size" st_least_size ["many", "rounds"]
  d_rounds_enough : DefAt K mg "rounds_enough" st_rounds_enough ["many", "size", "rounds"]
  d_two_left : DefAt K mg "two_left" st_two_left ["many", "size", "rounds"]
  d_spare_rounds : DefAt K mg "spare_rounds" st_spare_rounds ["many", "size", "rounds"]
  d_parts_of : DefAt K mg "parts_of" st_parts_of ["many", "size", "rounds"]
  d_is_row : DefAt K mg "is_row" st_is_row ["many", "thing"]
  d_over : DefAt K mg "over" st_over ["one", "other"]
  d_off : DefAt K mg "off" st_off ["one", "other"]
  d_grown : DefAt K mg "grown" st_grown ["seed", "many"]
  d_tag_numbers : DefAt K mg "tag_numbers" st_tag_numbers ["tag"]
  d_is_tag : DefAt K mg "is_tag" st_is_tag ["thing"]
  d_is_condition : DefAt K mg "is_condition" st_is_condition ["thing"]
  d_is_rule_row : DefAt K mg "is_rule_row" st_is_rule_row ["thing"]
  d_is_rule : DefAt K mg "is_rule" st_is_rule ["thing"]
  d_holds : DefAt K mg "holds" st_holds ["condition", "waiting", "oldest", "tick"]
  d_sent_by : DefAt K mg "sent_by" st_sent_by ["rule", "waiting", "oldest", "tick"]
  d_is_net : DefAt K mg "is_net" st_is_net ["thing"]
  d_need_net : DefAt K mg "need_net" st_need_net ["thing"]
  d_host_count : DefAt K mg "host_count" st_host_count ["net"]
  d_stage_by : DefAt K mg "stage_by" st_stage_by ["net", "host"]
  d_hosts_by : DefAt K mg "hosts_by" st_hosts_by ["net", "stage"]
  d_rule_by : DefAt K mg "rule_by" st_rule_by ["net", "host"]
  d_long_of : DefAt K mg "long_of" st_long_of ["net"]
  d_is_route : DefAt K mg "is_route" st_is_route ["net", "thing"]
  d_is_way : DefAt K mg "is_way" st_is_way ["net", "route", "reader", "tags"]
  d_is_order : DefAt K mg "is_order" st_is_order ["net", "thing"]
  d_places_of : DefAt K mg "places_of" st_places_of ["route", "reader", "tags"]
  d_order_places : DefAt K mg "order_places" st_order_places ["order"]
  d_are_orders : DefAt K mg "are_orders" st_are_orders ["net", "thing"]
  d_need_orders : DefAt K mg "need_orders" st_need_orders ["net", "orders"]
  d_is_place : DefAt K mg "is_place" st_is_place ["net", "thing"]
  d_is_secrets : DefAt K mg "is_secrets" st_is_secrets ["net", "thing"]
  d_need_secrets : DefAt K mg "need_secrets" st_need_secrets ["net", "secrets"]
  d_need_ready : DefAt K mg "need_ready" st_need_ready ["net", "secrets", "orders"]
  d_made_secrets : DefAt K mg "made_secrets" st_made_secrets ["net", "orders", "seed"]
  d_is_text : DefAt K mg "is_text" st_is_text ["net", "thing"]
  d_heads_of : DefAt K mg "heads_of" st_heads_of ["order"]
  d_tail_of : DefAt K mg "tail_of" st_tail_of ["long", "pads"]
  d_bodies_of : DefAt K mg "bodies_of" st_bodies_of ["net", "secrets", "order"]
  d_texts_by : DefAt K mg "texts_by" st_texts_by ["net", "secrets", "order"]
  d_peeled_by : DefAt K mg "peeled_by" st_peeled_by ["net", "pad", "text"]
  d_next_place : DefAt K mg "next_place" st_next_place ["net", "stage", "number"]
  d_is_posting : DefAt K mg "is_posting" st_is_posting ["net", "thing"]
  d_are_postings : DefAt K mg "are_postings" st_are_postings ["net", "thing"]
  d_is_fault : DefAt K mg "is_fault" st_is_fault ["net", "thing"]
  d_are_faults : DefAt K mg "are_faults" st_are_faults ["net", "thing"]
  d_need_run : DefAt K mg "need_run" st_need_run ["net", "secrets", "postings", "faults", "ticks"]
  e_Host___init__ : InitAt K k_Host.C "Host.__init__" st_Host___init__ ["self", "net", "host"]
  e_Host_leaving : MethAt K k_Host.C "leaving" "Host.leaving" st_Host_leaving ["self", "tick", "texts"]
  e_Host_sends : MethAt K k_Host.C "sends" "Host.sends" st_Host_sends ["self", "secrets", "text"]
  d_spoilt : DefAt K mg "spoilt" st_spoilt ["net", "outs", "faults", "kept"]
  e_Run___init__ : InitAt K k_Run.C "Run.__init__" st_Run___init__ ["self", "net", "secrets", "postings", "faults"]
  e_Run_posted : MethAt K k_Run.C "posted" "Run.posted" st_Run_posted ["self", "tick"]
  e_Run_host_step : MethAt K k_Run.C "host_step" "Run.host_step" st_Run_host_step ["self", "host", "tick"]
  e_Run_step : MethAt K k_Run.C "step" "Run.step" st_Run_step ["self", "tick"]
  d_run_by : DefAt K mg "run_by" st_run_by ["net", "secrets", "postings", "faults", "ticks"]
  e_Told___init__ : InitAt K k_Told.C "Told.__init__" st_Told___init__ ["self", "run"]
  e_Told_log : MethAt K k_Told.C "log" "Told.log" st_Told_log ["self"]
  e_Told_batches : MethAt K k_Told.C "batches" "Told.batches" st_Told_batches ["self"]
  e_Told_came : MethAt K k_Told.C "came" "Told.came" st_Told_came ["self"]
  e_Told_waiting : MethAt K k_Told.C "waiting" "Told.waiting" st_Told_waiting ["self"]
  d_led : DefAt K mg "led" st_led ["net", "secrets", "postings", "faults", "ticks"]
  d_postings_by : DefAt K mg "postings_by" st_postings_by ["net", "secrets", "orders"]
  d_postings_of : DefAt K mg "postings_of" st_postings_of ["net", "secrets", "orders"]
  d__law_rules : DefAt K mg "_law_rules" st__law_rules []
  d__law_hosts : DefAt K mg "_law_hosts" st__law_hosts ["net", "stage"]
  d__law_mixed : DefAt K mg "_law_mixed" st__law_mixed ["cell", "k"]
  d__law_net : DefAt K mg "_law_net" st__law_net ["cell"]
  d__law_orders : DefAt K mg "_law_orders" st__law_orders ["cell", "more", "net", "most"]
  d__law_ways : DefAt K mg "_law_ways" st__law_ways ["orders"]
  d__law_row : DefAt K mg "_law_row" st__law_row ["cell", "many", "top"]
  d__law_at : DefAt K mg "_law_at" st__law_at ["script", "k"]
  d__law_flag : DefAt K mg "_law_flag" st__law_flag ["found", "due"]
  d__law_post : DefAt K mg "_law_post" st__law_post ["script", "at", "most"]
  d__law_lots : DefAt K mg "_law_lots" st__law_lots ["many", "size"]
  d__law_left : DefAt K mg "_law_left" st__law_left ["many", "size", "rounds"]
  d__law_refused : DefAt K mg "_law_refused" st__law_refused ["many", "size", "rounds"]
  d_law : DefAt K mg "law" st_law ["script"]
  b_all : mg "all" = none
  b_any : mg "any" = none
  b_bool : mg "bool" = none
  b_dict : mg "dict" = none
  b_enumerate : mg "enumerate" = none
  b_int : mg "int" = none
  b_isinstance : mg "isinstance" = none
  b_len : mg "len" = none
  b_list : mg "list" = none
  b_min : mg "min" = none
  b_range : mg "range" = none
  b_set : mg "set" = none
  b_sorted : mg "sorted" = none
  b_str : mg "str" = none
  b_sum : mg "sum" = none
  b_tuple : mg "tuple" = none
  b_zip : mg "zip" = none
  t_FAULTS : TupAt K mg "FAULTS" ["drop", "change", "keep", "add"]
  m_FEWEST_PERSONS : ∃ t, mg "FEWEST_PERSONS" = some (.int 2 t)
  m_HEAD : ∃ t, mg "HEAD" = some (.int 3 t)
  m_HOST : ∃ t, mg "HOST" = some (.int 0 t)
  m_MOD : ∃ t, mg "MOD" = some (.int 97 t)
  m_MOST_CONDITIONS : ∃ t, mg "MOST_CONDITIONS" = some (.int 3 t)
  m_MOST_FAULTS : ∃ t, mg "MOST_FAULTS" = some (.int 8 t)
  m_MOST_HOSTS : ∃ t, mg "MOST_HOSTS" = some (.int 3 t)
  m_MOST_NUMBER : ∃ t, mg "MOST_NUMBER" = some (.int 5 t)
  m_MOST_ORDERS : ∃ t, mg "MOST_ORDERS" = some (.int 12 t)
  m_MOST_PERSONS_friends : ∃ t, mg "MOST_PERSONS_friends" = some (.int 12 t)
  m_MOST_PERSONS_nets : ∃ t, mg "MOST_PERSONS_nets" = some (.int 6 t)
  m_MOST_POSTED : ∃ t, mg "MOST_POSTED" = some (.int 24 t)
  m_MOST_ROUNDS : ∃ t, mg "MOST_ROUNDS" = some (.int 40 t)
  m_MOST_ROWS : ∃ t, mg "MOST_ROWS" = some (.int 6 t)
  m_MOST_STAGES : ∃ t, mg "MOST_STAGES" = some (.int 3 t)
  m_MOST_STEP : ∃ t, mg "MOST_STEP" = some (.int 4 t)
  m_MOST_TICK : ∃ t, mg "MOST_TICK" = some (.int 40 t)
  m_MOST_TICKS : ∃ t, mg "MOST_TICKS" = some (.int 80 t)
  m_MOST_WIDTH : ∃ t, mg "MOST_WIDTH" = some (.int 16 t)
  m_PERSON : ∃ t, mg "PERSON" = some (.int 1 t)
  m_TAGS : ∃ t, mg "TAGS" = some (.int 9409 t)
  x_NoFaults : XAt K mg "NoFaults"
  x_NoNet : XAt K mg "NoNet"
  x_NoOrder : XAt K mg "NoOrder"
  x_NoRounds : XAt K mg "NoRounds"
  x_NoRun : XAt K mg "NoRun"
  x_NoSecrets : XAt K mg "NoSecrets"
  x_PostError : XAt K mg "PostError"
  w_NoRounds_PostError : TryAt K "NoRounds" "PostError"
local macro_rules | `(tactic| walk_at "le") => `(tactic| ((try simp only [List.map_append, List.map_cons, List.map_nil]); repeat (first | exact trivial | exact Le.refl _ | refine And.intro (Or.inr rfl) ?_ | refine And.intro (Or.inl rfl) ?_)))
local macro_rules | `(tactic| walk_at "side") => `(tactic| first | rfl | assumption | omega | decide | (simp; done) | (simp; omega))
section
variable {P : Program} {w : World} {K : PySem.W.Frag} {mg : Str → Option Value} {base : Heap}
inductive R_is_integer : List PyData → Res → Prop
  | mk {d} : isD d = false → R_is_integer [d] (.val (.bool (isInt d)))
theorem d_is_integer (T : Txt K mg) : DefOk P w K mg base "is_integer" ["thing"] 1 R_is_integer :=
  T.d_is_integer.ok sc_is_integer (by decide) (by intro ds r h; cases h <;> rfl) fun f cdv Ar outer s H E hr => ⟨_, (pss_one (ps_ret (pe_and (pe_callB (k_isi (K := K)) (by rfl) T.b_isinstance (by decide +kernel) (pa_cons (pv 0) (pa_cons (pe_bltn (v := .ty "int") (by rfl) T.b_int (by decide +kernel) rfl) pa_nil))) (pe_one (pe_not (pe_callB (k_isi (K := K)) (by rfl) T.b_isinstance (by decide +kernel) (pa_cons (pv 0) (pa_cons (pe_bltn (v := .ty "bool") (by rfl) T.b_bool (by decide +kernel) rfl) pa_nil)))))))), fun ds r hR => by
    cases hR with
    | @mk d hd =>
      exact .inl (show SD K E _ [.da d] _ from (sd_ret (ED.to (ed_and (ed_isi hd (ed_var rfl) (k_int _)) (fun hb => (ed_not (ed_isi hd (ed_var rfl) (k_bool _))))) (by cases d <;> rfl))))⟩
inductive R_is_between : List PyData → Res → Prop
  | mk {i a b} : R_is_between [.int i, .int a, .int b] (.val (.bool (decide (a ≤ i) && decide (i ≤ b))))
  | no {d a b} : isD d = false → isInt d = false → R_is_between [d, .int a, .int b] (.val (.bool false))
theorem d_is_between (T : Txt K mg) (h_is_integer : DefOk P w K mg base "is_integer" ["thing"] 1 R_is_integer) : DefOk P w K mg base "is_between" ["thing", "least", "most"] 2 R_is_between :=
  T.d_is_between.ok sc_is_between (by decide) (by intro ds r h; cases h <;> rfl) fun f cdv Ar outer s H E hr => ⟨_, (pss_one (ps_ret (pe_and (pe_callD h_is_integer (hr.mono (by decide)) (by rfl) passL (pa_cons (pv 0) pa_nil)) (pe_one (pe_chain op_le op_le (pv 1) (pv 0) (pv 2)))))), fun ds r hR => by
    cases hR with
    | @mk i a b =>
      exact .inl (show SD K E _ [.da (.int i), .da (.int a), .da (.int b)] _ from (sd_ret (ED.to (ed_and (ed_call (eda_cons (ed_var rfl) eda_nil) (R_is_integer.mk (by rfl))) (fun hb => (ed_chain (ed_var rfl) (ed_var rfl) rv_le (fun hb => ⟨_, (ed_var rfl), rv_le⟩)))) (by rfl))))
    | @no d a b hd hi =>
      exact .inl (show SD K E _ [.da d, .da (.int a), .da (.int b)] _ from (sd_ret (ED.to (ed_and (b := false) (c := true) (ED.to (ed_call (eda_cons (ed_var rfl) eda_nil) (R_is_integer.mk (by exact hd))) (by rw [hi])) (fun hb => Bool.noConfusion hb)) (by rfl))))⟩
inductive R_is_under : List PyData → Res → Prop
  | mk {i n} : R_is_under [.int i, .int n] (.val (.bool (decide (0 ≤ i) && decide (i < n))))
theorem d_is_under (T : Txt K mg) (h_is_integer : DefOk P w K mg base "is_integer" ["thing"] 1 R_is_integer) : DefOk P w K mg base "is_under" ["thing", "many"] 2 R_is_under :=
  T.d_is_under.ok sc_is_under (by decide) (by intro ds r h; cases h <;> rfl) fun f cdv Ar outer s H E hr => ⟨_, (pss_one (ps_ret (pe_and (pe_callD h_is_integer (hr.mono (by decide)) (by rfl) passL (pa_cons (pv 0) pa_nil)) (pe_one (pe_chain op_le op_lt pe_int (pv 0) (pv 1)))))), fun ds r hR => by
    cases hR with
    | @mk i n =>
      exact .inl (show SD K E _ [.da (.int i), .da (.int n)] _ from (sd_ret (ED.to (ed_and (ed_call (eda_cons (ed_var rfl) eda_nil) (R_is_integer.mk (by rfl))) (fun hb => (ed_chain ed_int (ed_var rfl) rv_le (fun hb => ⟨_, (ed_var rfl), rv_lt⟩)))) (by rfl))))⟩
inductive R_is_tuple_of : List PyData → Res → Prop
  | mk {ds n} : R_is_tuple_of [.tuple ds, .int n] (.val (.bool (decide ((ds.length : Int) = n))))
  | no {d n} : isD d = false → isTup d = false → R_is_tuple_of [d, .int n] (.val (.bool false))
theorem d_is_tuple_of (T : Txt K mg) : DefOk P w K mg base "is_tuple_of" ["thing", "many"] 1 R_is_tuple_of :=
  T.d_is_tuple_of.ok sc_is_tuple_of (by decide) (by intro ds r h; cases h <;> rfl) fun f cdv Ar outer s H E hr => ⟨_, (pss_one (ps_ret (pe_and (pe_callB (k_isi (K := K)) (by rfl) T.b_isinstance (by decide +kernel) (pa_cons (pv 0) (pa_cons (pe_bltn (v := .ty "tuple") (by rfl) T.b_tuple (by decide +kernel) rfl) pa_nil))) (pe_one (pe_cmpR op_eq (pe_callB (k_len (K := K)) (by rfl) T.b_len PySem.boot_len (pa_cons (pv 0) pa_nil)) (pv 1) (nomark _)))))), fun ds r hR => by
    cases hR with
    | @mk ds n =>
      exact .inl (show SD K E _ [.da (.tuple ds), .da (.int n)] _ from (sd_ret (ED.to (ed_and (ed_isi (by rfl) (ed_var rfl) (k_tuple _)) (fun hb => (ed_eqI (ed_cb (eda_cons (ed_var rfl) eda_nil) rc_lenT) (ed_var rfl)))) (by rfl))))
    | @no d n hd hn =>
      exact .inl (show SD K E _ [.da d, .da (.int n)] _ from (sd_ret (ED.to (ed_and (b := false) (c := true) (ED.to (ed_isi hd (ed_var rfl) (k_tuple _)) (by rw [hn])) (fun hb => Bool.noConfusion hb)) (by rfl))))⟩
/-- a tuple of whole numbers, each under n -/
def allUnder (xs : List Int) (n : Int) : Bool := xs.all fun i => decide (0 ≤ i) && decide (i < n)
inductive R_are_under : List PyData → Res → Prop
  | mk {xs : List Int} {n} : xs.length ≤ LIM → R_are_under [tupI xs, .int n] (.val (.bool (allUnder xs n)))
theorem d_are_under (T : Txt K mg) (h_is_under : DefOk P w K mg base "is_under" ["thing", "many"] 2 R_is_under) : DefOk P w K mg base "are_under" ["thing", "many"] 3 R_are_under :=
  T.d_are_under.ok sc_are_under (by decide) (by intro ds r h; cases h <;> rfl) fun f cdv Ar outer s H E hr => ⟨_, (pss_one (ps_ret (pe_and (pe_callB (k_isi (K := K)) (by rfl) T.b_isinstance (by decide +kernel) (pa_cons (pv 0) (pa_cons (pe_bltn (v := .ty "tuple") (by rfl) T.b_tuple (by decide +kernel) rfl) pa_nil))) (pe_one (pe_callB (k_all (K := K)) (by rfl) T.b_all (by decide +kernel) (pa_cons (pe_lc (own := [("one", 2)]) (g := (gName 2)) (tt := tYes) rfl sc_are_under.nd (k_tup (K := K) (pv 0)) (blkOk_by (N := N_are_under) (sc := defScope st_are_under) (by decide +kernel)) (fun _ _ _ _ _ => (pg_name (i := 2) sc_are_under.nd rfl (.inl rfl))) (fun _ _ _ _ _ => pts_nil) (fun _ _ _ _ _ => (pe_callD h_is_under (hr.mono (by decide)) (by rfl) passL (pa_cons (pv 2) (pa_cons (pv 1) pa_nil))))) pa_nil)))))), fun ds r hR => by
    cases hR with
    | @mk xs n hl =>
      exact .inl (show SD K E _ [.da (tupI xs), .da (.int n), .un] _ from (sd_ret (ED.to (ed_and (ed_isi (by rfl) (ed_var rfl) (k_tuple _)) (fun hb => (ed_cb (eda_cons (ed_lc_map  (it_tup (ed_var rfl)) (by exact hl) (fun x hx => ⟨_, (gd_name (by decide)), ((ed_call (eda_cons (ed_var rfl) (eda_cons (ed_var rfl) eda_nil)) (R_is_under.mk))).to (by rfl)⟩)) eda_nil) rc_allm))) (by rfl))))⟩
theorem k_rng {lo : Int} {n : Nat} {x : Int} (h : x ∈ rng lo n) : lo ≤ x ∧ x < lo + n := rng_mem h
/-- strictly rising -/
def isRis (xs : List Int) : Bool := (rng 1 ((xs.length : Int) - 1).toNat).all fun i => decide (xs.getD (i - 1).toNat 0 < xs.getD i.toNat 0)
inductive R_is_lot : List PyData → Res → Prop
  | mk {xs : List Int} {n} : xs.length ≤ LIM → R_is_lot [tupI xs, .int n] (.val (.bool (allUnder xs n && isRis xs)))
theorem d_is_lot (T : Txt K mg) (h_are_under : DefOk P w K mg base "are_under" ["thing", "many"] 3 R_are_under) : DefOk P w K mg base "is_lot" ["thing", "many"] 4 R_is_lot :=
  T.d_is_lot.ok sc_is_lot (by decide) (by intro ds r h; cases h <;> rfl) fun f cdv Ar outer s H E hr => ⟨_, (pss_one (ps_ret (pe_and (pe_callD h_are_under (hr.mono (by decide)) (by rfl) passL (pa_cons (pv 0) (pa_cons (pv 1) pa_nil))) (pe_one (pe_callB (k_all (K := K)) (by rfl) T.b_all (by decide +kernel) (pa_cons (pe_lc (own := [("at", 2)]) (g := (gName 2)) (tt := tYes) rfl sc_is_lot.nd (pi_range2 (by rfl) T.b_range (pa_cons pe_int (pa_cons (pe_callB (k_len (K := K)) (by rfl) T.b_len PySem.boot_len (pa_cons (pv 0) pa_nil)) pa_nil))) (blkOk_by (N := N_is_lot) (sc := defScope st_is_lot) (by decide +kernel)) (fun _ _ _ _ _ => (pg_name (i := 2) sc_is_lot.nd rfl (.inl rfl))) (fun _ _ _ _ _ => pts_nil) (fun _ _ _ _ _ => (pe_cmpR op_lt (pe_ix (k_ixT (K := K)) (pv 0) (pe_op op_sub (pv 2) pe_int) (fun _ _ => rfl)) (pe_ix (k_ixT (K := K)) (pv 0) (pv 2) (fun _ _ => rfl)) (nomark _)))) pa_nil)))))), fun ds r hR => by
    cases hR with
    | @mk xs n hl =>
      exact .inl (show SD K E _ [.da (tupI xs), .da (.int n), .un] _ from (sd_ret (ED.to (ed_and (ed_call (eda_cons (ed_var rfl) (eda_cons (ed_var rfl) eda_nil)) (R_are_under.mk (by exact hl))) (fun hb => (ed_cb (eda_cons (ed_lc_map  (it_rng2 (eda_cons ed_int (eda_cons (ed_cb (eda_cons (ed_var rfl) eda_nil) rc_lenT) eda_nil)) (by have : LIM = 1000000 := rfl; simp [tupI]; omega)) (by rw [rng_len]; have : LIM = 1000000 := rfl; simp [tupI]; omega) (fun x hx => ⟨_, (gd_name (by decide)), ((ed_lt (ed_ixTi (ed_var rfl) (ed_sub (ed_var rfl) ed_int) (by have := k_rng hx; omega) (by have := k_rng hx; simp [tupI] at this; omega)) (ed_ixTi (ed_var rfl) (ed_var rfl) (by have := k_rng hx; omega) (by have := k_rng hx; simp [tupI] at this; omega)))).to (by rfl)⟩)) eda_nil) rc_allm))) (by simp [tupI, isRis]))))⟩
inductive R_unlike : List PyData → Res → Prop
  | mk {ks : List (List Int)} : ks.length < 64 → R_unlike [.list (ks.map tupI)] (.val (.bool (decide ks.Nodup)))
theorem d_unlike (T : Txt K mg) : DefOk P w K mg base "unlike" ["things"] 1 R_unlike :=
  T.d_unlike.ok sc_unlike (by decide) (by intro ds r h; cases h <;> rfl) fun f cdv Ar outer s H E hr => ⟨_, (pss_one (ps_ret (pe_cmpR op_eq (pe_callB (k_lenT (P := P) (w := w)) (by rfl) T.b_len PySem.boot_len (pa_cons (pe_callTy (k_setOfT (K := K) (P := P) (w := w) hr.units) (by rfl) T.b_set (by decide +kernel) (pa_cons (pv 0) pa_nil)) pa_nil)) (pe_callB (k_len (K := K)) (by rfl) T.b_len PySem.boot_len (pa_cons (pv 0) pa_nil)) (nomark _)))), fun ds r hR => by
    cases hR with
    | @mk ks hl =>
      exact .inl (show SD K E _ [.da (.list (ks.map tupI))] _ from (sd_ret (ED.to (ed_eqI (ed_lenSetT (ed_var rfl) (by exact hl)) (ed_cb (eda_cons (ed_var rfl) eda_nil) rc_lenL)) (by rw [List.length_map]; congr 1; exact decide_eq_decide.mpr ⟨fun h => (dedup_len ks).mp (by omega), fun h => by rw [(dedup_len ks).mpr h]⟩))))⟩
def seenOk (m : Int) (rs : List (List Int)) : Bool := rs.all fun r => allUnder r m && isRis r
inductive R_are_seen : List PyData → Res → Prop
  | mk {m} {rs : List (List Int)} : rs.length ≤ 40 → (∀ r ∈ rs, r.length ≤ LIM) → R_are_seen [.int m, .tuple (rs.map tupI)] (.val (.bool (seenOk m rs)))
  | long {m} {ds : List PyData} : 40 < ds.length → R_are_seen [.int m, .tuple ds] (.val (.bool false))
  | no {m d} : isD d = false → isTup d = false → R_are_seen [.int m, d] (.val (.bool false))
theorem d_are_seen (T : Txt K mg) (h_is_lot : DefOk P w K mg base "is_lot" ["thing", "many"] 4 R_is_lot) : DefOk P w K mg base "are_seen" ["many", "thing"] 5 R_are_seen :=
  T.d_are_seen.ok sc_are_seen (by decide) (by intro ds r h; cases h <;> rfl) fun f cdv Ar outer s H E hr => ⟨_, (pss_cons (ps_if (PW.pt (pw_or (pt_not (pt_val (pe_callB (k_isi (K := K)) (by rfl) T.b_isinstance (by decide +kernel) (pa_cons (pv 1) (pa_cons (pe_bltn (v := .ty "tuple") (by rfl) T.b_tuple (by decide +kernel) rfl) pa_nil))))) (pw_or1 (pt_cmpR op_gt (pe_callB (k_len (K := K)) (by rfl) T.b_len PySem.boot_len (pa_cons (pv 1) pa_nil)) (pe_globI (by rfl) T.m_MOST_ROUNDS) (nomark _))))) (pss_one (ps_ret pe_bl)) pss_nil)
  (pss_one (ps_ret (pe_callB (k_all (K := K)) (by rfl) T.b_all (by decide +kernel) (pa_cons (pe_lc (own := [("lot", 2)]) (g := (gName 2)) (tt := tYes) rfl sc_are_seen.nd (k_tup (K := K) (pv 1)) (blkOk_by (N := N_are_seen) (sc := defScope st_are_seen) (by decide +kernel)) (fun _ _ _ _ _ => (pg_name (i := 2) sc_are_seen.nd rfl (.inl rfl))) (fun _ _ _ _ _ => pts_nil) (fun _ _ _ _ _ => (pe_callD h_is_lot (hr.mono (by decide)) (by rfl) passL (pa_cons (pv 2) (pa_cons (pv 0) pa_nil))))) pa_nil))))), fun ds r hR => by
    cases hR with
    | @mk m rs hl hr =>
      exact .inl (show SD K E _ [.da (.int m), .da (.tuple (rs.map tupI)), .un] _ from (sd_ifs (b := false) (ET.to (et_or (et_not (et_val (ed_isi (by rfl) (ed_var rfl) (k_tuple _)))) (fun hb => (et_cmp (ed_gt (ed_cb (eda_cons (ed_var rfl) eda_nil) rc_lenT) ed_int)))) (by rw [List.length_map]; show (!true || decide ((40 : Int) < rs.length)) = false; simp; omega)) (fun hb => Bool.noConfusion hb) (fun hb => (sd_nexts (sd_ret (ED.to (ed_cb (eda_cons (ed_lc_map  (it_tup (ed_var rfl)) (by have : LIM = 1000000 := rfl; omega) (fun x hx => ⟨_, (gd_name (by decide)), ((ed_call (eda_cons (ed_var rfl) (eda_cons (ed_var rfl) eda_nil)) (R_is_lot.mk (by exact hr x hx)))).to (by rfl)⟩)) eda_nil) rc_allm) (by rfl)))))))
    | @long m ds hl =>
      exact .inl (show SD K E _ [.da (.int m), .da (.tuple ds), .un] _ from (sd_ifs (b := true) (ET.to (et_or (et_not (et_val (ed_isi rfl (ed_var rfl) (k_tuple _)))) (fun hb => (et_cmp (ed_gt (ed_cb (eda_cons (ed_var rfl) eda_nil) rc_lenT) ed_int)))) (by show (!true || decide ((40 : Int) < ds.length)) = true; simp; omega)) (fun hb => (sd_ret_seq ed_bl)) (fun hb => Bool.noConfusion hb)))
    | @no m d hd hn =>
      exact .inl (show SD K E _ [.da (.int m), .da d, .un] _ from (sd_ifs (b := true) (et_or (b := true) (c := true) (ET.to (et_not (et_val (ed_isi hd (ed_var rfl) (k_tuple _)))) (by rw [hn]; rfl)) (fun hb => Bool.noConfusion hb)) (fun hb => (sd_ret_seq ed_bl)) (fun hb => Bool.noConfusion hb)))⟩
inductive R_need_seen : List PyData → Res → Prop
  | mk {m s} {rs : List (List Int)} : 1 ≤ m → m ≤ 12 → 0 ≤ s → s ≤ m → rs.length ≤ 40 → (∀ r ∈ rs, r.length ≤ LIM) → seenOk m rs = true → R_need_seen [.int m, .int s, .tuple (rs.map tupI)] (.val .none)
  | bad1 {m s d} : (decide (1 ≤ m) && decide (m ≤ 12)) = false → R_need_seen [.int m, .int s, d] (.exc "NoRounds")
  | bad2 {m s d} : (decide (1 ≤ m) && decide (m ≤ 12)) = true → (decide (0 ≤ s) && decide (s ≤ m)) = false → R_need_seen [.int m, .int s, d] (.exc "NoRounds")
  | bad3 {m s d} : (decide (1 ≤ m) && decide (m ≤ 12)) = true → (decide (0 ≤ s) && decide (s ≤ m)) = true → R_are_seen [.int m, d] (.val (.bool false)) → R_need_seen [.int m, .int s, d] (.exc "NoRounds")
theorem d_need_seen (T : Txt K mg) (h_are_seen : DefOk P w K mg base "are_seen" ["many", "thing"] 5 R_are_seen) (h_is_between : DefOk P w K mg base "is_between" ["thing", "least", "most"] 2 R_is_between) : DefOk P w K mg base "need_seen" ["many", "size", "thing"] 6 R_need_seen :=
  T.d_need_seen.ok sc_need_seen (by decide) (by intro ds r h; cases h <;> rfl) fun f cdv Ar outer s H E hr => ⟨_, (pss_one (ps_if (PW.pt (pw_or (pt_not (pt_val (pe_callD h_is_between (hr.mono (by decide)) (by rfl) passL (pa_cons (pv 0) (pa_cons pe_int (pa_cons (pe_globI (by rfl) T.m_MOST_PERSONS_friends) pa_nil)))))) (pw_or (pt_not (pt_val (pe_callD h_is_between (hr.mono (by decide)) (by rfl) passL (pa_cons (pv 1) (pa_cons pe_int (pa_cons (pv 0) pa_nil)))))) (pw_or1 (pt_not (pt_val (pe_callD h_are_seen (hr.mono (by decide)) (by rfl) passL (pa_cons (pv 0) (pa_cons (pv 2) pa_nil))))))))) (pss_one (ps_raiseD T.x_NoRounds rfl (takes_of rfl rfl rfl rfl) (by rfl))) pss_nil)), fun ds r hR => by
    cases hR with
    | @mk m s rs h1 h2 h3 h4 hl hr hs =>
      exact .inr ⟨rfl, _, (show SD K E _ [.da (.int m), .da (.int s), .da (.tuple (rs.map tupI))] _ from (sd_if (b := false) (ET.to (et_or (et_not (et_val (ed_call (eda_cons (ed_var rfl) (eda_cons ed_int (eda_cons ed_int eda_nil))) (R_is_between.mk)))) (fun hb => (et_or (et_not (et_val (ed_call (eda_cons (ed_var rfl) (eda_cons ed_int (eda_cons (ed_var rfl) eda_nil))) (R_is_between.mk)))) (fun hb => (et_not (et_val (ed_call (eda_cons (ed_var rfl) (eda_cons (ed_var rfl) eda_nil)) (R_are_seen.mk hl hr)))))))) (by rw [hs, decide_eq_true h1, decide_eq_true h2, decide_eq_true h3, decide_eq_true h4]; rfl)) (fun hb => Bool.noConfusion hb) (fun hb => sd_next)))⟩
    | @bad1 m s d h =>
      exact .inl (show SD K E _ [.da (.int m), .da (.int s), .da d] _ from (sd_if (b := true) (ET.to (et_or (b := true) (c := true) (ET.to (et_not (et_val (ed_call (eda_cons (ed_var rfl) (eda_cons ed_int (eda_cons ed_int eda_nil))) (R_is_between.mk)))) (by rw [h]; rfl)) (fun hb => Bool.noConfusion hb)) (by rfl)) (fun hb => (sd_raise T.x_NoRounds)) (fun hb => Bool.noConfusion hb)))
    | @bad2 m s d h h2 =>
      exact .inl (show SD K E _ [.da (.int m), .da (.int s), .da d] _ from (sd_if (b := true) (ET.to (et_or (et_not (et_val (ed_call (eda_cons (ed_var rfl) (eda_cons ed_int (eda_cons ed_int eda_nil))) (R_is_between.mk)))) (fun hb => (et_or (b := true) (c := true) (ET.to (et_not (et_val (ed_call (eda_cons (ed_var rfl) (eda_cons ed_int (eda_cons (ed_var rfl) eda_nil))) (R_is_between.mk)))) (by rw [h2]; rfl)) (fun hb => Bool.noConfusion hb)))) (by rw [h]; rfl)) (fun hb => (sd_raise T.x_NoRounds)) (fun hb => Bool.noConfusion hb)))
    | @bad3 m s d h h2 h3 =>
      exact .inl (show SD K E _ [.da (.int m), .da (.int s), .da d] _ from (sd_if (b := true) (ET.to (et_or (et_not (et_val (ed_call (eda_cons (ed_var rfl) (eda_cons ed_int (eda_cons ed_int eda_nil))) (R_is_between.mk)))) (fun hb => (et_or (et_not (et_val (ed_call (eda_cons (ed_var rfl) (eda_cons ed_int (eda_cons (ed_var rfl) eda_nil))) (R_is_between.mk)))) (fun hb => (et_not (et_val (ed_call (eda_cons (ed_var rfl) (eda_cons (ed_var rfl) eda_nil)) h3))))))) (by rw [h, h2]; rfl)) (fun hb => (sd_raise T.x_NoRounds)) (fun hb => Bool.noConfusion hb)))⟩
def loOf (lot : List Int) : Int := match lot.getLast? with | none => 0 | some x => x + 1
def nextLots (m : Int) (f : List (List Int)) : List (List Int) := f.flatMap fun lot => (rng (loOf lot) (m - loOf lot).toNat).map fun one => lot ++ [one]
def lotsOf (m : Int) : Nat → List (List Int)
  | 0 => [[]]
  | n + 1 => nextLots m (lotsOf m n)
theorem lots_fold (m : Int) : ∀ (l : List Int), l.foldl (fun f _ => nextLots m f) [[]] = lotsOf m l.length := fun l => by
  have key : ∀ (l : List Int) (f : List (List Int)), l.foldl (fun f _ => nextLots m f) f = (List.replicate l.length ()).foldl (fun f _ => nextLots m f) f := fun l => by
    induction l with
    | nil => exact fun _ => rfl
    | cons x l ih => exact fun f => by rw [List.foldl_cons, List.length_cons, List.replicate_succ, List.foldl_cons, ih]
  rw [key]
  generalize l.length = n
  induction n with
  | zero => rfl
  | succ n ih => rw [List.replicate_succ', List.foldl_append, ih]; rfl
theorem lots_in {m : Int} : ∀ {n : Nat} {lot : List Int}, lot ∈ lotsOf m n → lot.length = n ∧ ∀ x ∈ lot, 0 ≤ x ∧ x < m
  | 0, lot, h => by
    have : lot = [] := by simpa [lotsOf] using h
    subst this; simp
  | n + 1, lot, h => by
    obtain ⟨l, hl, h⟩ := List.mem_flatMap.mp h
    obtain ⟨y, hy, rfl⟩ := List.mem_map.mp h
    obtain ⟨e, hx⟩ := lots_in hl
    refine ⟨by simp [e], fun x h => ?_⟩
    rcases List.mem_append.mp h with h | h
    · exact hx x h
    · have : x = y := by simpa using h
      subst this
      obtain ⟨a, b⟩ := rng_mem hy
      have h0 : 0 ≤ loOf l := by
        unfold loOf
        split
        · omega
        · rename_i z hz
          have := hx z (List.mem_of_getLast? hz)
          omega
      omega
theorem lo_in {m : Int} {n : Nat} {lot : List Int} (h : lot ∈ lotsOf m n) (hm : 0 ≤ m) : 0 ≤ loOf lot ∧ loOf lot ≤ m := by
  unfold loOf
  split
  · omega
  · rename_i z hz
    have := (lots_in h).2 z (List.mem_of_getLast? hz)
    omega
theorem flat_len {α β : Type} (f : α → List β) (k : Nat) : ∀ (xs : List α), (∀ x ∈ xs, (f x).length ≤ k) → (xs.flatMap f).length ≤ k * xs.length
  | [], _ => by simp
  | x :: xs, h => by
    rw [List.flatMap_cons, List.length_append, List.length_cons, Nat.mul_succ]
    have h1 := h x List.mem_cons_self
    have h2 := flat_len f k xs fun y hy => h y (List.mem_cons_of_mem _ hy)
    omega
theorem lots_len {m : Int} (h0 : 0 ≤ m) (h7 : m ≤ 7) : ∀ n : Nat, (lotsOf m n).length ≤ 7 ^ n
  | 0 => Nat.le_refl _
  | n + 1 => by
    have h1 := flat_len (fun lot => (rng (loOf lot) (m - loOf lot).toNat).map fun one => lot ++ [one]) 7 (lotsOf m n) fun lot hl => by
      rw [List.length_map, rng_len]
      have := lo_in hl h0
      omega
    have h2 := lots_len h0 h7 n
    show (nextLots m (lotsOf m n)).length ≤ 7 ^ (n + 1)
    rw [Nat.pow_succ, Nat.mul_comm]
    exact Nat.le_trans h1 (Nat.mul_le_mul_left 7 h2)
theorem lots_lim {m : Int} (h0 : 0 ≤ m) (h7 : m ≤ 7) {n : Nat} (hn : n ≤ 7) : (lotsOf m n).length ≤ LIM :=
  Nat.le_trans (lots_len h0 h7 n) (Nat.le_trans (Nat.pow_le_pow_right (by decide) hn) (by decide))
theorem last_get {lot : List Int} (h : (!(lot.map PyData.int).isEmpty) = true) : lot.getLast? = some (lot.getLast?.getD 0) := by
  cases lot with
  | nil => cases h
  | cons x xs => rw [List.getLast?_cons]; rfl
theorem lo_some {lot : List Int} (h : (!(lot.map PyData.int).isEmpty) = true) : PyData.int (lot.getLast?.getD 0 + 1) = .int (loOf lot) := by
  unfold loOf
  rw [last_get h]; rfl
theorem lo_none {lot : List Int} (h : (!(lot.map PyData.int).isEmpty) = false) : PyData.int 0 = .int (loOf lot) := by
  cases lot with
  | nil => rfl
  | cons x xs => cases h
theorem next_map' (m : Int) (f : List (List Int)) : (f.flatMap fun lot => (rng (loOf lot) (m - loOf lot).toNat).map fun one => tupI (lot ++ [one])) = (nextLots m f).map tupI := by
  unfold nextLots
  rw [List.map_flatMap]
  congr 1; funext lot
  rw [List.map_map]; rfl
theorem next_map (m : Int) (f : List (List Int)) : PyData.list (f.flatMap fun lot => (rng (loOf lot) (m - loOf lot).toNat).map fun one => tupI (lot ++ [one])) = .list ((nextLots m f).map tupI) := by rw [next_map']
inductive R_lots_of : List PyData → Res → Prop
  | mk {m s : Int} : (0 ≤ m ∧ m ≤ 7) → (0 ≤ s ∧ s ≤ 7) → R_lots_of [.int m, .int s] (.val (.list ((lotsOf m s.toNat).map tupI)))
theorem d_lots_of (T : Txt K mg) : DefOk P w K mg base "lots_of" ["many", "size"] 1 R_lots_of :=
  T.d_lots_of.ok sc_lots_of (by decide) (by intro ds r h; cases h <;> rfl) fun f cdv Ar outer s H E hr => ⟨_, (pss_cons (ps_set (i := 2) sc_lots_of.nd rfl (.inl rfl) (pe_lst (pa_cons (pe_tup pa_nil) pa_nil)))
  (pss_cons (ps_for PW0 rfl (pi_range1 (by rfl) T.b_range (pa_cons (pv 1) pa_nil)) (pg_name (i := 3) sc_lots_of.nd rfl (.inl rfl)) (pss_one (ps_setLc2 (i := 2) (own := [("lot", 4), ("one", 5)]) (vs1 := [5]) (g := (gName 4)) (g1 := (gName 5)) (tt := tYes) (tt1 := tYes) rfl sc_lots_of.nd rfl rfl (sw_true rfl rfl rfl (by decide +kernel)) (k_list (K := K) (pv 2)) (blkOk_by (N := N_lots_of) (sc := defScope st_lots_of) (by decide +kernel)) (by decide) (fun _ _ _ _ _ => (pg_name (i := 4) sc_lots_of.nd rfl (.inl rfl))) (fun _ _ _ _ _ => pts_nil) (fun _ _ _ _ _ => (pi_range2 (by rfl) T.b_range (pa_cons (pe_ifExp (k_truth (K := K) (pv 4)) (pe_op op_add (pe_ix (k_ixT (K := K)) (pv 4) (pe_un un_neg pe_int) (fun _ _ => rfl)) pe_int) pe_int) (pa_cons (pv 0) pa_nil)))) (fun _ _ _ _ _ => (pg_name (i := 5) sc_lots_of.nd rfl (.inl rfl))) (fun _ _ _ _ _ => pts_nil) (fun _ _ _ _ _ => (pe_op (k_catT (K := K)) (pv 4) (pe_tup (pa_cons (pv 5) pa_nil)))))))
  (pss_one (ps_ret (pv 2))))), fun ds r hR => by
    cases hR with
    | @mk m s hm hs =>
      exact .inl (show SD K E _ [.da (.int m), .da (.int s), .un, .un, .un, .un] _ from (sd_seq (sd_set (ed_lst (eda_cons (ed_tup eda_nil) eda_nil)))
  (sd_seq (sd_for (S := fun f : List (List Int) => [.da (.int m), .da (.int s), .da (.list (f.map tupI)), .un, .un, .un]) (step := fun f _ => nextLots m f) (b0 := [[]]) (f := .int) (xs := rng 0 s.toNat) (it_rng1 (eda_cons (ed_var rfl) eda_nil) (by omega) (by omega)) (by walk_at "le") (fun pre post x hx => ⟨_, gs_name, .inl (SD.weak (sd_set (ED.to (ed_lc2_map (f := tupI) (sub := fun lot => (rng (loOf lot) (m - loOf lot).toNat).map fun one => tupI (lot ++ [one])) (it_list (ed_var rfl)) (by (have hp : pre.length < 7 := by have := (rng_at hx).1; omega); rw [next_map', lots_fold, List.length_map]; exact lots_lim (n := pre.length + 1) hm.1 hm.2 hp) (fun z hz => ⟨_, (gd_name (by decide)), (inner_map (it_rng2 (eda_cons (ed_if (d := .int (loOf z)) (et_truT (ed_var rfl)) (fun hb => ((ed_add (ed_ixTlast (ed_var rfl) (ed_neg ed_int) (by exact ⟨rfl, last_get hb⟩)) ed_int)).to (by exact lo_some hb)) (fun hb => (ed_int).to (by exact lo_none hb))) (eda_cons (ed_var rfl) eda_nil)) (by rw [lots_fold] at hz; have := lo_in hz hm.1; omega)) (fun y hy => ⟨_, (gd_name (by decide)), ((ed_catT (ed_var rfl) (ed_tup (eda_cons (ed_var rfl) eda_nil)) (by (rw [lots_fold] at hz; have := (lots_in hz).1; have h2 := (rng_at hx).1; have : LIM = 1000000 := rfl; simp; omega)))).to (by simp [tupI])⟩))⟩)) (by exact next_map m _))) (by walk_at "le"))⟩))
  (sd_ret (ED.to (ed_var rfl) (by rw [lots_fold, rng_len]))))))⟩
def meetsL (lot other : List Int) : Bool := lot.any fun one => decide (one ∈ other)
inductive R_meets : List PyData → Res → Prop
  | mk {a b : List Int} : a.length ≤ LIM → R_meets [tupI a, tupI b] (.val (.bool (meetsL a b)))
theorem d_meets (T : Txt K mg) : DefOk P w K mg base "meets" ["lot", "other"] 1 R_meets :=
  T.d_meets.ok sc_meets (by decide) (by intro ds r h; cases h <;> rfl) fun f cdv Ar outer s H E hr => ⟨_, (pss_one (ps_ret (pe_callB (k_any (K := K)) (by rfl) T.b_any (by decide +kernel) (pa_cons (pe_lc (own := [("one", 2)]) (g := (gName 2)) (tt := tYes) rfl sc_meets.nd (k_tup (K := K) (pv 0)) (blkOk_by (N := N_meets) (sc := defScope st_meets) (by decide +kernel)) (fun _ _ _ _ _ => (pg_name (i := 2) sc_meets.nd rfl (.inl rfl))) (fun _ _ _ _ _ => pts_nil) (fun _ _ _ _ _ => (pe_cmpR (k_in (K := K)) (pv 2) (pv 1) (by with_unfolding_all rfl)))) pa_nil)))), fun ds r hR => by
    cases hR with
    | @mk a b hl =>
      exact .inl (show SD K E _ [.da (tupI a), .da (tupI b), .un] _ from (sd_ret (ED.to (ed_cb (eda_cons (ed_lc_map  (it_tup (ed_var rfl)) (by exact hl) (fun x hx => ⟨_, (gd_name (by decide)), ((ed_inI (ed_var rfl) (ed_var rfl) (by rfl))).to (by rfl)⟩)) eda_nil) rc_anym) (by rfl))))⟩
def meetAll (rs : List (List Int)) (lot : List Int) : Bool := rs.all fun seen => meetsL lot seen
def leftL (m : Int) (s : Nat) (rs : List (List Int)) : List (List Int) := (lotsOf m s).filter (meetAll rs)
theorem left_lim {m : Int} (h0 : 0 ≤ m) (h7 : m ≤ 7) {n : Nat} (hn : n ≤ 7) (rs : List (List Int)) : (leftL m n rs).length ≤ LIM := Nat.le_trans (List.length_filter_le _ _) (lots_lim h0 h7 hn)
inductive R_left_lots : List PyData → Res → Prop
  | mk {m s : Int} {rs : List (List Int)} : (0 ≤ m ∧ m ≤ 7) → (0 ≤ s ∧ s ≤ 7) → rs.length ≤ LIM → R_left_lots [.int m, .int s, .tuple (rs.map tupI)] (.val (.list ((leftL m s.toNat rs).map tupI)))
theorem d_left_lots (T : Txt K mg) (h_lots_of : DefOk P w K mg base "lots_of" ["many", "size"] 1 R_lots_of) (h_meets : DefOk P w K mg base "meets" ["lot", "other"] 1 R_meets) : DefOk P w K mg base "left_lots" ["many", "size", "rounds"] 2 R_left_lots :=
  T.d_left_lots.ok sc_left_lots (by decide) (by intro ds r h; cases h <;> rfl) fun f cdv Ar outer s H E hr => ⟨_, (pss_one (ps_ret (pe_lc (own := [("lot", 3)]) (g := (gName 3)) rfl sc_left_lots.nd (k_list (K := K) (pe_callD h_lots_of (hr.mono (by decide)) (by rfl) passL (pa_cons (pv 0) (pa_cons (pv 1) pa_nil)))) (blkOk_by (N := N_left_lots) (sc := defScope st_left_lots) (by decide +kernel)) (fun _ _ _ _ _ => (pg_name (i := 3) sc_left_lots.nd rfl (.inr rfl))) (fun _ _ _ _ _ => (pts_one (pt_val (pe_callB (k_all (K := K)) (by rfl) T.b_all (by decide +kernel) (pa_cons (pe_lc (own := [("seen", 4)]) (g := (gName 4)) (tt := tYes) rfl sc_left_lots.nd (k_tup (K := K) (pv 2)) (blkOk_by rfl) (fun _ _ _ _ _ => (pg_name (i := 4) sc_left_lots.nd rfl (.inl rfl))) (fun _ _ _ _ _ => pts_nil) (fun _ _ _ _ _ => (pe_callD h_meets (hr.mono (by decide)) (by rfl) passL (pa_cons (pv 3) (pa_cons (pv 4) pa_nil))))) pa_nil))))) (fun _ _ _ _ _ => (pv 3))))), fun ds r hR => by
    cases hR with
    | @mk m s rs hm hs hl =>
      exact .inl (show SD K E _ [.da (.int m), .da (.int s), .da (.tuple (rs.map tupI)), .un, .un] _ from (sd_ret (ED.to (ed_lc_filter (meetAll rs) (it_list (ed_call (eda_cons (ed_var rfl) (eda_cons (ed_var rfl) eda_nil)) (R_lots_of.mk hm hs))) (by exact lots_lim hm.1 hm.2 (by omega)) (fun x hx => ⟨_, (gd_name (by decide)), ((et_val (ed_cb (eda_cons (ed_lc_map  (it_tup (ed_var rfl)) (by exact hl) (fun u hu => ⟨_, (gd_name (by decide)), ((ed_call (eda_cons (ed_var rfl) (eda_cons (ed_var rfl) eda_nil)) (R_meets.mk (by have h1 := (lots_in hx).1; have : LIM = 1000000 := rfl; omega)))).to (by rfl)⟩)) eda_nil) rc_allm))).to (by rfl), fun hp => ((ed_var rfl)).to (by rfl)⟩)) (by rfl))))⟩
structure OkSeen (m s : Int) (rs : List (List Int)) : Prop where
  m1 : 1 ≤ m
  m7 : m ≤ 7
  s0 : 0 ≤ s
  sm : s ≤ m
  few : rs.length ≤ 40
  lens : ∀ r ∈ rs, r.length ≤ LIM
  ok : seenOk m rs = true
theorem OkSeen.need {m s : Int} {rs : List (List Int)} (h : OkSeen m s rs) : R_need_seen [.int m, .int s, .tuple (rs.map tupI)] (.val .none) := .mk h.m1 (by have := h.m7; omega) h.s0 h.sm h.few h.lens h.ok
theorem OkSeen.left {m s : Int} {rs : List (List Int)} (h : OkSeen m s rs) : R_left_lots [.int m, .int s, .tuple (rs.map tupI)] (.val (.list ((leftL m s.toNat rs).map tupI))) := by
  obtain ⟨h1, h2, h3, h4, h5, h6, h7⟩ := h
  exact .mk ⟨by omega, h2⟩ ⟨h3, by omega⟩ (Nat.le_trans h5 (by decide))
theorem OkSeen.lim {m s : Int} {rs : List (List Int)} (h : OkSeen m s rs) : (leftL m s.toNat rs).length ≤ LIM := by
  obtain ⟨h1, h2, h3, h4, h5, h6, h7⟩ := h
  exact left_lim (by omega) h2 (by omega) rs
inductive R_friend_lots : List PyData → Res → Prop
  | mk {m s : Int} {rs : List (List Int)} : OkSeen m s rs → R_friend_lots [.int m, .int s, .tuple (rs.map tupI)] (.val (.tuple ((leftL m s.toNat rs).map tupI)))
  | exc {a b d : PyData} {c : Str} : R_need_seen [a, b, d] (.exc c) → R_friend_lots [a, b, d] (.exc c)
theorem d_friend_lots (T : Txt K mg) (h_left_lots : DefOk P w K mg base "left_lots" ["many", "size", "rounds"] 2 R_left_lots) (h_need_seen : DefOk P w K mg base "need_seen" ["many", "size", "thing"] 6 R_need_seen) : DefOk P w K mg base "friend_lots" ["many", "size", "rounds"] 7 R_friend_lots :=
  T.d_friend_lots.ok sc_friend_lots (by decide) (by intro ds r h; cases h <;> rfl) fun f cdv Ar outer s H E hr => ⟨_, (pss_cons (ps_expr (pe_callD h_need_seen (hr.mono (by decide)) (by rfl) passC (pa_cons (pv 0) (pa_cons (pv 1) (pa_cons (pv 2) pa_nil)))))
  (pss_one (ps_ret (pe_callTy (k_tupOf (K := K)) (by rfl) T.b_tuple (by decide +kernel) (pa_cons (pe_callD h_left_lots (hr.mono (by decide)) (by rfl) passL (pa_cons (pv 0) (pa_cons (pv 1) (pa_cons (pv 2) pa_nil)))) pa_nil))))), fun ds r hR => by
    cases hR with
    | @mk m s rs h =>
      exact .inl (show SD K E _ [.da (.int m), .da (.int s), .da (.tuple (rs.map tupI))] _ from (sd_seq (sd_drop (ed_call (eda_cons (ed_var rfl) (eda_cons (ed_var rfl) (eda_cons (ed_var rfl) eda_nil))) h.need))
  (sd_ret (ED.to (ed_cb (eda_cons (ed_call (eda_cons (ed_var rfl) (eda_cons (ed_var rfl) (eda_cons (ed_var rfl) eda_nil))) h.left) eda_nil) rc_tuple_l) (by rfl)))))
    | @exc a b d c h =>
      exact .inl (show SD K E _ [.da a, .da b, .da d] _ from (sd_dropX_seq (ex_call (eda_cons (ed_var rfl) (eda_cons (ed_var rfl) (eda_cons (ed_var rfl) eda_nil))) h)))⟩
def sureL (m : Int) (lots : List (List Int)) : List Int := (rng 0 m.toNat).filter fun p => lots.all fun lot => decide (p ∈ lot)
theorem rng_lim {m : Int} (h : m ≤ 7) : (rng 0 m.toNat).length ≤ LIM := by rw [rng_len]; have : LIM = 1000000 := rfl; omega
inductive R_sure_friends : List PyData → Res → Prop
  | mk {m s : Int} {rs : List (List Int)} : OkSeen m s rs → R_sure_friends [.int m, .int s, .tuple (rs.map tupI)] (.val (if leftL m s.toNat rs = [] then .none else tupI (sureL m (leftL m s.toNat rs))))
theorem d_sure_friends (T : Txt K mg) (h_friend_lots : DefOk P w K mg base "friend_lots" ["many", "size", "rounds"] 7 R_friend_lots) : DefOk P w K mg base "sure_friends" ["many", "size", "rounds"] 8 R_sure_friends :=
  T.d_sure_friends.ok sc_sure_friends (by decide) (by intro ds r h; cases h <;> rfl) fun f cdv Ar outer s H E hr => ⟨_, (pss_cons (ps_set (i := 3) sc_sure_friends.nd rfl (.inr rfl) (pe_callD h_friend_lots (hr.mono (by decide)) (by rfl) passC (pa_cons (pv 0) (pa_cons (pv 1) (pa_cons (pv 2) pa_nil)))))
  (pss_cons (ps_if (pt_not (k_truth (K := K) (pv 3))) (pss_one (ps_ret pe_non)) pss_nil)
  (pss_one (ps_ret (pe_callTy (k_tupOf (K := K)) (by rfl) T.b_tuple (by decide +kernel) (pa_cons (pe_lc (own := [("person", 4)]) (g := (gName 4)) rfl sc_sure_friends.nd (pi_range1 (by rfl) T.b_range (pa_cons (pv 0) pa_nil)) (blkOk_by (N := N_sure_friends) (sc := defScope st_sure_friends) (by decide +kernel)) (fun _ _ _ _ _ => (pg_name (i := 4) sc_sure_friends.nd rfl (.inr rfl))) (fun _ _ _ _ _ => (pts_one (pt_val (pe_callB (k_all (K := K)) (by rfl) T.b_all (by decide +kernel) (pa_cons (pe_lc (own := [("lot", 5)]) (g := (gName 5)) (tt := tYes) rfl sc_sure_friends.nd (k_tup (K := K) (pv 3)) (blkOk_by rfl) (fun _ _ _ _ _ => (pg_name (i := 5) sc_sure_friends.nd rfl (.inl rfl))) (fun _ _ _ _ _ => pts_nil) (fun _ _ _ _ _ => (pe_cmpR (k_in (K := K)) (pv 4) (pv 5) (by with_unfolding_all rfl)))) pa_nil))))) (fun _ _ _ _ _ => (pv 4))) pa_nil)))))), fun ds r hR => by
    cases hR with
    | @mk m s rs h =>
      exact .inl (show SD K E _ [.da (.int m), .da (.int s), .da (.tuple (rs.map tupI)), .un, .un, .un] _ from (sd_seq (sd_set (ed_call (eda_cons (ed_var rfl) (eda_cons (ed_var rfl) (eda_cons (ed_var rfl) eda_nil))) (R_friend_lots.mk h)))
  (sd_ifs (et_not (et_truT (ed_var rfl))) (fun hb => (sd_ret_seq (ED.to ed_non (by rw [if_pos]; simpa using hb)))) (fun hb => (sd_nexts (sd_ret (ED.to (ed_cb (eda_cons (ed_lc_filter (fun p => (leftL m s.toNat rs).all fun lot => decide (p ∈ lot)) (it_rng1 (eda_cons (ed_var rfl) eda_nil) (by have := h.m1; omega) (by have := h.m7; omega)) (by exact rng_lim h.m7) (fun x hx => ⟨_, (gd_name (by decide)), ((et_val (ed_cb (eda_cons (ed_lc_map  (it_tup (ed_var rfl)) (by exact h.lim) (fun u hu => ⟨_, (gd_name (by decide)), ((ed_inI (ed_var rfl) (ed_var rfl) (by rfl))).to (by rfl)⟩)) eda_nil) rc_allm))).to (by rfl), fun hp => ((ed_var rfl)).to (by rfl)⟩)) eda_nil) rc_tuple_l) (by rw [if_neg]; rfl; simpa using hb))))))))⟩
def clearL (m : Int) (lots : List (List Int)) : List Int := (rng 0 m.toNat).filter fun p => !(lots.any fun lot => decide (p ∈ lot))
inductive R_cleared : List PyData → Res → Prop
  | mk {m s : Int} {rs : List (List Int)} : OkSeen m s rs → R_cleared [.int m, .int s, .tuple (rs.map tupI)] (.val (tupI (clearL m (leftL m s.toNat rs))))
theorem d_cleared (T : Txt K mg) (h_friend_lots : DefOk P w K mg base "friend_lots" ["many", "size", "rounds"] 7 R_friend_lots) : DefOk P w K mg base "cleared" ["many", "size", "rounds"] 8 R_cleared :=
  T.d_cleared.ok sc_cleared (by decide) (by intro ds r h; cases h <;> rfl) fun f cdv Ar outer s H E hr => ⟨_, (pss_cons (ps_set (i := 3) sc_cleared.nd rfl (.inr rfl) (pe_callD h_friend_lots (hr.mono (by decide)) (by rfl) passC (pa_cons (pv 0) (pa_cons (pv 1) (pa_cons (pv 2) pa_nil)))))
  (pss_one (ps_ret (pe_callTy (k_tupOf (K := K)) (by rfl) T.b_tuple (by decide +kernel) (pa_cons (pe_lc (own := [("person", 4)]) (g := (gName 4)) rfl sc_cleared.nd (pi_range1 (by rfl) T.b_range (pa_cons (pv 0) pa_nil)) (blkOk_by (N := N_cleared) (sc := defScope st_cleared) (by decide +kernel)) (fun _ _ _ _ _ => (pg_name (i := 4) sc_cleared.nd rfl (.inr rfl))) (fun _ _ _ _ _ => (pts_one (pt_not (pt_val (pe_callB (k_any (K := K)) (by rfl) T.b_any (by decide +kernel) (pa_cons (pe_lc (own := [("lot", 5)]) (g := (gName 5)) (tt := tYes) rfl sc_cleared.nd (k_tup (K := K) (pv 3)) (blkOk_by rfl) (fun _ _ _ _ _ => (pg_name (i := 5) sc_cleared.nd rfl (.inl rfl))) (fun _ _ _ _ _ => pts_nil) (fun _ _ _ _ _ => (pe_cmpR (k_in (K := K)) (pv 4) (pv 5) (by with_unfolding_all rfl)))) pa_nil)))))) (fun _ _ _ _ _ => (pv 4))) pa_nil))))), fun ds r hR => by
    cases hR with
    | @mk m s rs h =>
      exact .inl (show SD K E _ [.da (.int m), .da (.int s), .da (.tuple (rs.map tupI)), .un, .un, .un] _ from (sd_seq (sd_set (ed_call (eda_cons (ed_var rfl) (eda_cons (ed_var rfl) (eda_cons (ed_var rfl) eda_nil))) (R_friend_lots.mk h)))
  (sd_ret (ED.to (ed_cb (eda_cons (ed_lc_filter (fun p => !((leftL m s.toNat rs).any fun lot => decide (p ∈ lot))) (it_rng1 (eda_cons (ed_var rfl) eda_nil) (by have := h.m1; omega) (by have := h.m7; omega)) (by exact rng_lim h.m7) (fun x hx => ⟨_, (gd_name (by decide)), ((et_not (et_val (ed_cb (eda_cons (ed_lc_map  (it_tup (ed_var rfl)) (by exact h.lim) (fun u hu => ⟨_, (gd_name (by decide)), ((ed_inI (ed_var rfl) (ed_var rfl) (by rfl))).to (by rfl)⟩)) eda_nil) rc_anym)))).to (by rfl), fun hp => ((ed_var rfl)).to (by rfl)⟩)) eda_nil) rc_tuple_l) (by rfl)))))⟩
inductive R_is_known : List PyData → Res → Prop
  | mk {m s : Int} {rs : List (List Int)} : OkSeen m s rs → R_is_known [.int m, .int s, .tuple (rs.map tupI)] (.val (.bool (decide ((leftL m s.toNat rs).length = 1))))
theorem d_is_known (T : Txt K mg) (h_friend_lots : DefOk P w K mg base "friend_lots" ["many", "size", "rounds"] 7 R_friend_lots) : DefOk P w K mg base "is_known" ["many", "size", "rounds"] 8 R_is_known :=
  T.d_is_known.ok sc_is_known (by decide) (by intro ds r h; cases h <;> rfl) fun f cdv Ar outer s H E hr => ⟨_, (pss_one (ps_ret (pe_cmpR op_eq (pe_callB (k_len (K := K)) (by rfl) T.b_len PySem.boot_len (pa_cons (pe_callD h_friend_lots (hr.mono (by decide)) (by rfl) passC (pa_cons (pv 0) (pa_cons (pv 1) (pa_cons (pv 2) pa_nil)))) pa_nil)) pe_int (nomark _)))), fun ds r hR => by
    cases hR with
    | @mk m s rs h =>
      exact .inl (show SD K E _ [.da (.int m), .da (.int s), .da (.tuple (rs.map tupI))] _ from (sd_ret (ED.to (ed_eqI (ed_cb (eda_cons (ed_call (eda_cons (ed_var rfl) (eda_cons (ed_var rfl) (eda_cons (ed_var rfl) eda_nil))) (R_friend_lots.mk h)) eda_nil) rc_lenT) ed_int) (by rw [List.length_map]; congr 1; exact decide_eq_decide.mpr ⟨fun h => by omega, fun h => by omega⟩))))⟩
def leastD (m : Int) (rs : List (List Int)) : PyData := ended ((rng 0 (m + 1).toNat).foldlM (fun (_ : Unit) s => turn (!(leftL m s.toNat rs).isEmpty) (.int s) ()) ()) .none
inductive R_least_size : List PyData → Res → Prop
  | mk {m : Int} {rs : List (List Int)} : OkSeen m 0 rs → R_least_size [.int m, .tuple (rs.map tupI)] (.val (leastD m rs))
theorem d_least_size (T : Txt K mg) (h_left_lots : DefOk P w K mg base "left_lots" ["many", "size", "rounds"] 2 R_left_lots) (h_need_seen : DefOk P w K mg base "need_seen" ["many", "size", "thing"] 6 R_need_seen) : DefOk P w K mg base "least_size" ["many", "rounds"] 7 R_least_size :=
  T.d_least_size.ok sc_least_size (by decide) (by intro ds r h; cases h <;> rfl) fun f cdv Ar outer s H E hr => ⟨_, (pss_cons (ps_expr (pe_callD h_need_seen (hr.mono (by decide)) (by rfl) passC (pa_cons (pv 0) (pa_cons pe_int (pa_cons (pv 1) pa_nil)))))
  (pss_cons (ps_for PW0 rfl (pi_range1 (by rfl) T.b_range (pa_cons (pe_op op_add (pv 0) pe_int) pa_nil)) (pg_name (i := 2) sc_least_size.nd rfl (.inl rfl)) (pss_one (ps_if (k_truth (K := K) (pe_callD h_left_lots (hr.mono (by decide)) (by rfl) passL (pa_cons (pv 0) (pa_cons (pv 2) (pa_cons (pv 1) pa_nil))))) (pss_one (ps_ret (pv 2))) pss_nil)))
  (pss_one (ps_ret pe_non)))), fun ds r hR => by
    cases hR with
    | @mk m rs h =>
      exact .inl (show SD K E _ [.da (.int m), .da (.tuple (rs.map tupI)), .un] _ from (sd_seq (sd_drop (ed_call (eda_cons (ed_var rfl) (eda_cons ed_int (eda_cons (ed_var rfl) eda_nil))) h.need))
  (sd_forE (S := fun _ : Unit => [.da (.int m), .da (.tuple (rs.map tupI)), .un]) (step := fun (_ : Unit) s => turn (!(leftL m s.toNat rs).isEmpty) (.int s) ()) (b0 := ()) (f := .int) (xs := rng 0 (m + 1).toNat) (it_rng1 (eda_cons (ed_add (ed_var rfl) ed_int) eda_nil) (by have := h.m1; omega) (by have := h.m7; omega)) (by walk_at "le") (fun pre post x st hx hst => ⟨_, gs_name, (turn_if (fun hT => (sd_if (b := true) (ET.to (et_truL (ed_call (eda_cons (ed_var rfl) (eda_cons (ed_var rfl) (eda_cons (ed_var rfl) eda_nil))) (R_left_lots.mk ⟨by have := h.m1; omega, h.m7⟩ (by have := rng_at hx; have := h.m7; have := h.m1; omega) (Nat.le_trans h.few (by decide))))) (by simpa using hT)) (fun hb => (sd_ret (ED.to (ed_var rfl) (by rfl)))) (fun hb => Bool.noConfusion hb))) (fun hF => .inl (sd_if (b := false) (ET.to (et_truL (ed_call (eda_cons (ed_var rfl) (eda_cons (ed_var rfl) (eda_cons (ed_var rfl) eda_nil))) (R_left_lots.mk ⟨by have := h.m1; omega, h.m7⟩ (by have := rng_at hx; have := h.m7; have := h.m1; omega) (Nat.le_trans h.few (by decide))))) (by simpa using hF)) (fun hb => Bool.noConfusion hb) (fun hb => (SD.weak sd_next (by walk_at "le"))))))⟩) (by intro d hd; unfold leastD; rw [hd]; rfl) (fun st hst => (sd_ret (ED.to ed_non (by unfold leastD; rw [hst]; rfl)))))))⟩
def enoughD (m s : Int) (rs : List (List Int)) : PyData := ended ((rng 0 (((rs.map tupI).length : Int) + 1).toNat).foldlM (fun (_ : Unit) k => turn (decide ((leftL m s.toNat (rs.take k.toNat)).length = 1)) (.int k) ()) ()) .none
inductive R_rounds_enough : List PyData → Res → Prop
  | mk {m s : Int} {rs : List (List Int)} : OkSeen m s rs → R_rounds_enough [.int m, .int s, .tuple (rs.map tupI)] (.val (enoughD m s rs))
theorem d_rounds_enough (T : Txt K mg) (h_left_lots : DefOk P w K mg base "left_lots" ["many", "size", "rounds"] 2 R_left_lots) (h_need_seen : DefOk P w K mg base "need_seen" ["many", "size", "thing"] 6 R_need_seen) : DefOk P w K mg base "rounds_enough" ["many", "size", "rounds"] 7 R_rounds_enough :=
  T.d_rounds_enough.ok sc_rounds_enough (by decide) (by intro ds r h; cases h <;> rfl) fun f cdv Ar outer s H E hr => ⟨_, (pss_cons (ps_expr (pe_callD h_need_seen (hr.mono (by decide)) (by rfl) passC (pa_cons (pv 0) (pa_cons (pv 1) (pa_cons (pv 2) pa_nil)))))
  (pss_cons (ps_for PW0 rfl (pi_range1 (by rfl) T.b_range (pa_cons (pe_op op_add (pe_callB (k_len (K := K)) (by rfl) T.b_len PySem.boot_len (pa_cons (pv 2) pa_nil)) pe_int) pa_nil)) (pg_name (i := 3) sc_rounds_enough.nd rfl (.inl rfl)) (pss_one (ps_if (pt_cmpR op_eq (pe_callB (k_len (K := K)) (by rfl) T.b_len PySem.boot_len (pa_cons (pe_callD h_left_lots (hr.mono (by decide)) (by rfl) passL (pa_cons (pv 0) (pa_cons (pv 1) (pa_cons (pe_slice (k_slT (K := K)) (pv 2) po_none (po_some (pv 3))) pa_nil)))) pa_nil)) pe_int (nomark _)) (pss_one (ps_ret (pv 3))) pss_nil)))
  (pss_one (ps_ret pe_non)))), fun ds r hR => by
    cases hR with
    | @mk m s rs h =>
      exact .inl (show SD K E _ [.da (.int m), .da (.int s), .da (.tuple (rs.map tupI)), .un] _ from (sd_seq (sd_drop (ed_call (eda_cons (ed_var rfl) (eda_cons (ed_var rfl) (eda_cons (ed_var rfl) eda_nil))) h.need))
  (sd_forE (S := fun _ : Unit => [.da (.int m), .da (.int s), .da (.tuple (rs.map tupI)), .un]) (step := fun (_ : Unit) k => turn (decide ((leftL m s.toNat (rs.take k.toNat)).length = 1)) (.int k) ()) (b0 := ()) (f := .int) (xs := rng 0 (((rs.map tupI).length : Int) + 1).toNat) (it_rng1 (eda_cons (ed_add (ed_cb (eda_cons (ed_var rfl) eda_nil) rc_lenT) ed_int) eda_nil) (by omega) (by have := h.few; rw [List.length_map]; omega)) (by walk_at "le") (fun pre post x st hx hst => ⟨_, gs_name, (turn_if (fun hT => (sd_if (b := true) (ET.to (et_cmp (ed_eqI (ed_cb (eda_cons (ed_call (eda_cons (ed_var rfl) (eda_cons (ed_var rfl) (eda_cons (ED.to (ed_slT (ed_var rfl) edo_none (edo_some (ed_var rfl))) (by exact (show PyData.tuple (cutD (rs.map tupI) none (some x)) = .tuple ((rs.take x.toNat).map tupI) by rw [cutD_to _ (by have := rng_at hx; omega), List.map_take]))) eda_nil))) (R_left_lots.mk (rs := rs.take x.toNat) ⟨by have := h.m1; omega, h.m7⟩ ⟨h.s0, by have := h.sm; have := h.m7; omega⟩ (by have := h.few; have : LIM = 1000000 := rfl; rw [List.length_take]; omega))) eda_nil) rc_lenL) ed_int)) (by simp at hT ⊢; omega)) (fun hb => (sd_ret (ED.to (ed_var rfl) (by rfl)))) (fun hb => Bool.noConfusion hb))) (fun hF => .inl (sd_if (b := false) (ET.to (et_cmp (ed_eqI (ed_cb (eda_cons (ed_call (eda_cons (ed_var rfl) (eda_cons (ed_var rfl) (eda_cons (ED.to (ed_slT (ed_var rfl) edo_none (edo_some (ed_var rfl))) (by exact (show PyData.tuple (cutD (rs.map tupI) none (some x)) = .tuple ((rs.take x.toNat).map tupI) by rw [cutD_to _ (by have := rng_at hx; omega), List.map_take]))) eda_nil))) (R_left_lots.mk (rs := rs.take x.toNat) ⟨by have := h.m1; omega, h.m7⟩ ⟨h.s0, by have := h.sm; have := h.m7; omega⟩ (by have := h.few; have : LIM = 1000000 := rfl; rw [List.length_take]; omega))) eda_nil) rc_lenL) ed_int)) (by simp at hF ⊢; omega)) (fun hb => Bool.noConfusion hb) (fun hb => (SD.weak sd_next (by walk_at "le"))))))⟩) (by intro d hd; unfold enoughD; rw [hd]; rfl) (fun st hst => (sd_ret (ED.to ed_non (by unfold enoughD; rw [hst]; rfl)))))))⟩
inductive R_two_left : List PyData → Res → Prop
  | mk {m s : Int} {rs : List (List Int)} : OkSeen m s rs → R_two_left [.int m, .int s, .tuple (rs.map tupI)] (.val (if 1 < (leftL m s.toNat rs).length then .tuple (((leftL m s.toNat rs).take 2).map tupI) else .none))
theorem d_two_left (T : Txt K mg) (h_friend_lots : DefOk P w K mg base "friend_lots" ["many", "size", "rounds"] 7 R_friend_lots) : DefOk P w K mg base "two_left" ["many", "size", "rounds"] 8 R_two_left :=
  T.d_two_left.ok sc_two_left (by decide) (by intro ds r h; cases h <;> rfl) fun f cdv Ar outer s H E hr => ⟨_, (pss_cons (ps_set (i := 3) sc_two_left.nd rfl (.inl rfl) (pe_callD h_friend_lots (hr.mono (by decide)) (by rfl) passC (pa_cons (pv 0) (pa_cons (pv 1) (pa_cons (pv 2) pa_nil)))))
  (pss_one (ps_ret (pe_ifExp (pt_cmpR op_gt (pe_callB (k_len (K := K)) (by rfl) T.b_len PySem.boot_len (pa_cons (pv 3) pa_nil)) pe_int (nomark _)) (pe_slice (k_slT (K := K)) (pv 3) po_none (po_some pe_int)) pe_non)))), fun ds r hR => by
    cases hR with
    | @mk m s rs h =>
      exact .inl (show SD K E _ [.da (.int m), .da (.int s), .da (.tuple (rs.map tupI)), .un] _ from (sd_seq (sd_set (ed_call (eda_cons (ed_var rfl) (eda_cons (ed_var rfl) (eda_cons (ed_var rfl) eda_nil))) (R_friend_lots.mk h)))
  (sd_ret (ED.to (ed_if (d := if 1 < (leftL m s.toNat rs).length then .tuple (((leftL m s.toNat rs).take 2).map tupI) else .none) (et_cmp (ed_gt (ed_cb (eda_cons (ed_var rfl) eda_nil) rc_lenT) ed_int)) (fun hb => ((ed_slT (ed_var rfl) edo_none (edo_some ed_int))).to (by rw [if_pos (by simp at hb; omega), cutD_to _ (by decide), ← List.map_take]; rfl)) (fun hb => (ed_non).to (by rw [if_neg (by simp at hb; omega)]))) (by rfl)))))⟩
def spareL (m s : Int) (rs : List (List Int)) : List Int := (rng 0 ((rs.map tupI).length : Int).toNat).filter fun k => PyData.eqv (.tuple ((leftL m s.toNat (rs.take k.toNat ++ rs.drop (k.toNat + 1))).map tupI)) (.tuple ((leftL m s.toNat rs).map tupI))
theorem filter_fold (p : Int → Bool) : ∀ (l : List Int) (acc : List Int), l.foldl (fun (acc : List Int) k => if p k = true then acc ++ [k] else acc) acc = acc ++ l.filter p
  | [], acc => by simp
  | x :: l, acc => by
    rw [List.foldl_cons, filter_fold p l]
    cases h : p x <;> simp [h]
theorem shp_lots (f : List (List Int)) : SeqAt.shaped (.tuple (f.map tupI)) = true := shaped_tupm (n := 1) (fun x => ⟨by
    show PyData.canLayAll0 (x.map .int) = true
    induction x with
    | nil => rfl
    | cons y x ih => show (true && PyData.canLayAll0 (x.map .int)) = true; rw [ih]; rfl, by
    show PyData.depthAll (x.map .int) + 1 ≤ 1
    have : PyData.depthAll (x.map .int) = 0 := by
      induction x with
      | nil => rfl
      | cons y x ih => show max 0 (PyData.depthAll (x.map .int)) = 0; rw [ih]; rfl
    omega⟩) (by decide) f
inductive R_spare_rounds : List PyData → Res → Prop
  | mk {m s : Int} {rs : List (List Int)} : OkSeen m s rs → R_spare_rounds [.int m, .int s, .tuple (rs.map tupI)] (.val (tupI (spareL m s rs)))
theorem d_spare_rounds (T : Txt K mg) (h_friend_lots : DefOk P w K mg base "friend_lots" ["many", "size", "rounds"] 7 R_friend_lots) (h_left_lots : DefOk P w K mg base "left_lots" ["many", "size", "rounds"] 2 R_left_lots) : DefOk P w K mg base "spare_rounds" ["many", "size", "rounds"] 8 R_spare_rounds :=
  T.d_spare_rounds.ok sc_spare_rounds (by decide) (by intro ds r h; cases h <;> rfl) fun f cdv Ar outer s H E hr => ⟨_, (pss_cons (ps_set (i := 3) sc_spare_rounds.nd rfl (.inl rfl) (pe_callD h_friend_lots (hr.mono (by decide)) (by rfl) passC (pa_cons (pv 0) (pa_cons (pv 1) (pa_cons (pv 2) pa_nil)))))
  (pss_cons (ps_set (i := 4) sc_spare_rounds.nd rfl (.inl rfl) (pe_lst pa_nil))
  (pss_cons (ps_for PW0 rfl (pi_range1 (by rfl) T.b_range (pa_cons (pe_callB (k_len (K := K)) (by rfl) T.b_len PySem.boot_len (pa_cons (pv 2) pa_nil)) pa_nil)) (pg_name (i := 5) sc_spare_rounds.nd rfl (.inl rfl)) (pss_one (ps_if (pt_cmpR (k_eqD hr.units (K := K)) (pe_callTy (k_tupOf (K := K)) (by rfl) T.b_tuple (by decide +kernel) (pa_cons (pe_callD h_left_lots (hr.mono (by decide)) (by rfl) passL (pa_cons (pv 0) (pa_cons (pv 1) (pa_cons (pe_op (k_catT (K := K)) (pe_slice (k_slT (K := K)) (pv 2) po_none (po_some (pv 5))) (pe_slice (k_slT (K := K)) (pv 2) (po_some (pe_op op_add (pv 5) pe_int)) po_none)) pa_nil)))) pa_nil)) (pv 3) (nomark _)) (pss_one (ps_expr (pe_bm PySem.F.plainAttrs_list PySem.F.slot_list_append PySem.F.type_list_append mt_append (pv 4) (pa_cons (pv 5) pa_nil)))) pss_nil)))
  (pss_one (ps_ret (pe_callTy (k_tupOf (K := K)) (by rfl) T.b_tuple (by decide +kernel) (pa_cons (pv 4) pa_nil))))))), fun ds r hR => by
    cases hR with
    | @mk m s rs h =>
      let p : Int → Bool := fun k => PyData.eqv (.tuple ((leftL m s.toNat (rs.take k.toNat ++ rs.drop (k.toNat + 1))).map tupI)) (.tuple ((leftL m s.toNat rs).map tupI))
      exact .inl (show SD K E _ [.da (.int m), .da (.int s), .da (.tuple (rs.map tupI)), .un, .un, .un] _ from (sd_seq (sd_set (ed_call (eda_cons (ed_var rfl) (eda_cons (ed_var rfl) (eda_cons (ed_var rfl) eda_nil))) (R_friend_lots.mk h)))
  (sd_seq (sd_new eda_nil)
  (sd_seq (sd_for (S := fun f : List Int => [.da (.int m), .da (.int s), .da (.tuple (rs.map tupI)), .da (.tuple ((leftL m s.toNat rs).map tupI)), .ow (mlA K (f.map .int)), .un]) (step := fun (acc : List Int) k => if p k = true then acc ++ [k] else acc) (b0 := []) (f := .int) (xs := rng 0 ((rs.map tupI).length : Int).toNat) (it_rng1 (eda_cons (ed_cb (eda_cons (ed_var rfl) eda_nil) rc_lenT) eda_nil) (by omega) (by have := h.few; rw [List.length_map]; omega)) (by walk_at "le") (fun pre post x hx => ⟨_, gs_name, .inl (sd_if (et_cmp (ed_eqD (ed_cb (eda_cons (ed_call (eda_cons (ed_var rfl) (eda_cons (ed_var rfl) (eda_cons (ed_catT (ED.to (ed_slT (ed_var rfl) edo_none (edo_some (ed_var rfl))) (by exact (show PyData.tuple (cutD (rs.map tupI) none (some x)) = .tuple ((rs.take x.toNat).map tupI) by rw [cutD_to _ (by have := rng_at hx; omega), List.map_take]))) (ED.to (ed_slT (ed_var rfl) (edo_some (ed_add (ed_var rfl) ed_int)) edo_none) (by exact (show PyData.tuple (cutD (rs.map tupI) (some (x + 1)) none) = .tuple ((rs.drop (x.toNat + 1)).map tupI) by rw [cutD_from _ (by have := rng_at hx; omega), List.map_drop, show (x + 1).toNat = x.toNat + 1 by have := rng_at hx; omega]))) (by have := h.few; have : LIM = 1000000 := rfl; rw [List.length_append, List.length_map, List.length_map, List.length_take, List.length_drop]; omega)) eda_nil))) (by have := R_left_lots.mk (m := m) (s := s) (rs := rs.take x.toNat ++ rs.drop (x.toNat + 1)) ⟨by have := h.m1; omega, h.m7⟩ ⟨h.s0, by have := h.sm; have := h.m7; omega⟩ (by have := h.few; have : LIM = 1000000 := rfl; rw [List.length_append, List.length_take, List.length_drop]; omega); rw [List.map_append] at this; exact this)) eda_nil) rc_tuple_l) (ed_var rfl) (by exact shp_lots _) (by exact shp_lots _))) (fun hb => (SD.weak (sd_append rfl (ed_var rfl) (by rw [filter_fold p, List.nil_append, List.length_map]; have h1 := List.length_filter_le p pre; have h2 := (rng_at hx).1; have h3 := h.few; rw [List.length_map] at h2; have : LIM = 1000000 := rfl; omega)) (by simp only [show p x = true from hb, if_true]; walk_at "le"))) (fun hb => (SD.weak sd_next (by simp only [show p x = false from hb, Bool.false_eq_true, if_false]; walk_at "le"))))⟩))
  (sd_freeze 4 rfl (sd_ret (ED.to (ed_cb (eda_cons (ed_var rfl) eda_nil) rc_tuple_l) (by rw [filter_fold p]; rfl))))))))⟩
def partD (lots : List (List Int)) (p : Int) : PyData := .tuple [.int ((lots.filter fun lot => decide (p ∈ lot)).length : Nat), .int (lots.length : Nat)]
inductive R_parts_of : List PyData → Res → Prop
  | mk {m s : Int} {rs : List (List Int)} : OkSeen m s rs → R_parts_of [.int m, .int s, .tuple (rs.map tupI)] (.val (.tuple ((rng 0 m.toNat).map (partD (leftL m s.toNat rs)))))
theorem d_parts_of (T : Txt K mg) (h_friend_lots : DefOk P w K mg base "friend_lots" ["many", "size", "rounds"] 7 R_friend_lots) : DefOk P w K mg base "parts_of" ["many", "size", "rounds"] 8 R_parts_of :=
  T.d_parts_of.ok sc_parts_of (by decide) (by intro ds r h; cases h <;> rfl) fun f cdv Ar outer s H E hr => ⟨_, (pss_cons (ps_set (i := 3) sc_parts_of.nd rfl (.inr rfl) (pe_callD h_friend_lots (hr.mono (by decide)) (by rfl) passC (pa_cons (pv 0) (pa_cons (pv 1) (pa_cons (pv 2) pa_nil)))))
  (pss_one (ps_ret (pe_callTy (k_tupOf (K := K)) (by rfl) T.b_tuple (by decide +kernel) (pa_cons (pe_lc (own := [("person", 4)]) (g := (gName 4)) (tt := tYes) rfl sc_parts_of.nd (pi_range1 (by rfl) T.b_range (pa_cons (pv 0) pa_nil)) (blkOk_by (N := N_parts_of) (sc := defScope st_parts_of) (by decide +kernel)) (fun _ _ _ _ _ => (pg_name (i := 4) sc_parts_of.nd rfl (.inr rfl))) (fun _ _ _ _ _ => pts_nil) (fun _ _ _ _ _ => (pe_tup (pa_cons (pe_callB (k_len (K := K)) (by rfl) T.b_len PySem.boot_len (pa_cons (pe_lc (own := [("lot", 5)]) (g := (gName 5)) rfl sc_parts_of.nd (k_tup (K := K) (pv 3)) (blkOk_by rfl) (fun _ _ _ _ _ => (pg_name (i := 5) sc_parts_of.nd rfl (.inl rfl))) (fun _ _ _ _ _ => (pts_one (pt_cmpR (k_in (K := K)) (pv 4) (pv 5) (by with_unfolding_all rfl)))) (fun _ _ _ _ _ => pe_int)) pa_nil)) (pa_cons (pe_callB (k_len (K := K)) (by rfl) T.b_len PySem.boot_len (pa_cons (pv 3) pa_nil)) pa_nil))))) pa_nil))))), fun ds r hR => by
    cases hR with
    | @mk m s rs h =>
      exact .inl (show SD K E _ [.da (.int m), .da (.int s), .da (.tuple (rs.map tupI)), .un, .un, .un] _ from (sd_seq (sd_set (ed_call (eda_cons (ed_var rfl) (eda_cons (ed_var rfl) (eda_cons (ed_var rfl) eda_nil))) (R_friend_lots.mk h)))
  (sd_ret (ED.to (ed_cb (eda_cons (ed_lc_map  (it_rng1 (eda_cons (ed_var rfl) eda_nil) (by have := h.m1; omega) (by have := h.m7; omega)) (by exact rng_lim h.m7) (fun x hx => ⟨_, (gd_name (by decide)), ((ed_tup (eda_cons (ed_cb (eda_cons (ed_lc_filter (fun lot => decide (x ∈ lot)) (it_tup (ed_var rfl)) (by exact h.lim) (fun u hu => ⟨_, (gd_name (by decide)), ((et_cmp (ed_inI (ed_var rfl) (ed_var rfl) (by rfl)))).to (by rfl), fun hp => (ed_int).to (by rfl)⟩)) eda_nil) rc_lenL) (eda_cons (ed_cb (eda_cons (ed_var rfl) eda_nil) rc_lenT) eda_nil)))).to (by simp [partD]; rfl)⟩)) eda_nil) rc_tuple_l) (by rfl)))))⟩
inductive R_is_row : List PyData → Res → Prop
  | mk {n : Int} {xs : List Int} : xs.length ≤ LIM → R_is_row [.int n, tupI xs] (.val (.bool (decide ((xs.length : Int) = n) && allUnder xs 97)))
theorem d_is_row (T : Txt K mg) (h_is_under : DefOk P w K mg base "is_under" ["thing", "many"] 2 R_is_under) : DefOk P w K mg base "is_row" ["many", "thing"] 3 R_is_row :=
  T.d_is_row.ok sc_is_row (by decide) (by intro ds r h; cases h <;> rfl) fun f cdv Ar outer s H E hr => ⟨_, (pss_one (ps_ret (pe_and (pe_callB (k_isi (K := K)) (by rfl) T.b_isinstance (by decide +kernel) (pa_cons (pv 1) (pa_cons (pe_bltn (v := .ty "tuple") (by rfl) T.b_tuple (by decide +kernel) rfl) pa_nil))) (pe_and (pe_cmpR op_eq (pe_callB (k_len (K := K)) (by rfl) T.b_len PySem.boot_len (pa_cons (pv 1) pa_nil)) (pv 0) (nomark _)) (pe_one (pe_callB (k_all (K := K)) (by rfl) T.b_all (by decide +kernel) (pa_cons (pe_lc (own := [("one", 2)]) (g := (gName 2)) (tt := tYes) rfl sc_is_row.nd (k_tup (K := K) (pv 1)) (blkOk_by (N := N_is_row) (sc := defScope st_is_row) (by decide +kernel)) (fun _ _ _ _ _ => (pg_name (i := 2) sc_is_row.nd rfl (.inl rfl))) (fun _ _ _ _ _ => pts_nil) (fun _ _ _ _ _ => (pe_callD h_is_under (hr.mono (by decide)) (by rfl) passL (pa_cons (pv 2) (pa_cons (pe_globI (by rfl) T.m_MOD) pa_nil))))) pa_nil))))))), fun ds r hR => by
    cases hR with
    | @mk n xs hl =>
      exact .inl (show SD K E _ [.da (.int n), .da (tupI xs), .un] _ from (sd_ret (ED.to (ed_and (ed_isi (by rfl) (ed_var rfl) (k_tuple _)) (fun hb => (ed_and (ed_eqI (ed_cb (eda_cons (ed_var rfl) eda_nil) rc_lenT) (ed_var rfl)) (fun hb => (ed_cb (eda_cons (ed_lc_map  (it_tup (ed_var rfl)) (by exact hl) (fun x hx => ⟨_, (gd_name (by decide)), ((ed_call (eda_cons (ed_var rfl) (eda_cons ed_int eda_nil)) (R_is_under.mk))).to (by rfl)⟩)) eda_nil) rc_allm))))) (by simp [tupI, isTup, allUnder]))))⟩
def overL (a b : List Int) : List Int := (a.zip b).map fun p => (p.1 + p.2) % 97
inductive R_over : List PyData → Res → Prop
  | mk {a b : List Int} : a.length ≤ LIM → b.length ≤ LIM → R_over [tupI a, tupI b] (.val (tupI (overL a b)))
theorem d_over (T : Txt K mg) : DefOk P w K mg base "over" ["one", "other"] 1 R_over :=
  T.d_over.ok sc_over (by decide) (by intro ds r h; cases h <;> rfl) fun f cdv Ar outer s H E hr => ⟨_, (pss_one (ps_ret (pe_callTy (k_tupOf (K := K)) (by rfl) T.b_tuple (by decide +kernel) (pa_cons (pe_lc (own := [("mine", 2), ("yours", 3)]) (g := (gTup K 2 (gCons (gName 2) (gCons (gName 3) gNil)))) (tt := tYes) rfl sc_over.nd (pi_zipM (K := K) (by rfl) T.b_zip (pa_cons (pv 0) (pa_cons (pv 1) pa_nil))) (blkOk_by (N := N_over) (sc := defScope st_over) (by decide +kernel)) (fun _ _ _ _ _ => (k_gtup (K := K) rfl (pgs_cons (pg_name (i := 2) sc_over.nd rfl (.inl rfl)) (pgs_cons (pg_name (i := 3) sc_over.nd rfl (.inl rfl)) pgs_nil)))) (fun _ _ _ _ _ => pts_nil) (fun _ _ _ _ _ => (pe_op op_mod (pe_op op_add (pv 2) (pv 3)) (pe_globI (by rfl) T.m_MOD)))) pa_nil)))), fun ds r hR => by
    cases hR with
    | @mk a b h1 h2 =>
      exact .inl (show SD K E _ [.da (tupI a), .da (tupI b), .un, .un] _ from (sd_ret (ED.to (ed_cb (eda_cons (ed_lc_map  (it_zipm (eda_cons (ed_var rfl) (eda_cons (ed_var rfl) eda_nil)) (by rfl) (by rfl)) (by rw [List.length_zip]; omega) (fun x hx => ⟨_, (gd_tup (gd_cons (gd_name (by decide)) (gd_cons (gd_name (by decide)) gd_nil)) rfl), ((ed_mod (ed_add (ed_var rfl) (ed_var rfl)) ed_int (by decide))).to (by rfl)⟩)) eda_nil) rc_tuple_l) (by simp [tupI, overL]))))⟩
def offL (a b : List Int) : List Int := (a.zip b).map fun p => (p.1 - p.2) % 97
inductive R_off : List PyData → Res → Prop
  | mk {a b : List Int} : a.length ≤ LIM → b.length ≤ LIM → R_off [tupI a, tupI b] (.val (tupI (offL a b)))
theorem d_off (T : Txt K mg) : DefOk P w K mg base "off" ["one", "other"] 1 R_off :=
  T.d_off.ok sc_off (by decide) (by intro ds r h; cases h <;> rfl) fun f cdv Ar outer s H E hr => ⟨_, (pss_one (ps_ret (pe_callTy (k_tupOf (K := K)) (by rfl) T.b_tuple (by decide +kernel) (pa_cons (pe_lc (own := [("mine", 2), ("yours", 3)]) (g := (gTup K 2 (gCons (gName 2) (gCons (gName 3) gNil)))) (tt := tYes) rfl sc_off.nd (pi_zipM (K := K) (by rfl) T.b_zip (pa_cons (pv 0) (pa_cons (pv 1) pa_nil))) (blkOk_by (N := N_off) (sc := defScope st_off) (by decide +kernel)) (fun _ _ _ _ _ => (k_gtup (K := K) rfl (pgs_cons (pg_name (i := 2) sc_off.nd rfl (.inl rfl)) (pgs_cons (pg_name (i := 3) sc_off.nd rfl (.inl rfl)) pgs_nil)))) (fun _ _ _ _ _ => pts_nil) (fun _ _ _ _ _ => (pe_op op_mod (pe_op op_sub (pv 2) (pv 3)) (pe_globI (by rfl) T.m_MOD)))) pa_nil)))), fun ds r hR => by
    cases hR with
    | @mk a b h1 h2 =>
      exact .inl (show SD K E _ [.da (tupI a), .da (tupI b), .un, .un] _ from (sd_ret (ED.to (ed_cb (eda_cons (ed_lc_map  (it_zipm (eda_cons (ed_var rfl) (eda_cons (ed_var rfl) eda_nil)) (by rfl) (by rfl)) (by rw [List.length_zip]; omega) (fun x hx => ⟨_, (gd_tup (gd_cons (gd_name (by decide)) (gd_cons (gd_name (by decide)) gd_nil)) rfl), ((ed_mod (ed_sub (ed_var rfl) (ed_var rfl)) ed_int (by decide))).to (by rfl)⟩)) eda_nil) rc_tuple_l) (by simp [tupI, offL]))))⟩
def growS (p : Int × List Int) (_ : Int) : Int × List Int := ((p.1 * 48271 + 11) % 2147483647, p.2 ++ [((p.1 * 48271 + 11) % 2147483647) / 7 % 97])
def grownL (seed : Int) (n : Nat) : List Int := ((rng 0 n).foldl growS (seed, [])).2
theorem grow_len : ∀ (l : List Int) (p : Int × List Int), (l.foldl growS p).2.length = p.2.length + l.length
  | [], p => by simp
  | x :: l, p => by rw [List.foldl_cons, grow_len l]; simp [growS]; omega
theorem grownL_len (seed : Int) (n : Nat) : (grownL seed n).length = n := by unfold grownL; rw [grow_len, rng_len]; simp
theorem grow_in : ∀ (l : List Int) (p : Int × List Int), (∀ x ∈ p.2, 0 ≤ x ∧ x < 97) → ∀ x ∈ (l.foldl growS p).2, 0 ≤ x ∧ x < 97
  | [], p, h => h
  | y :: l, p, h => by
    rw [List.foldl_cons]
    refine grow_in l _ fun x hx => ?_
    rcases List.mem_append.mp hx with hx | hx
    · exact h x hx
    · have : x = ((p.1 * 48271 + 11) % 2147483647) / 7 % 97 := by simpa using hx
      omega
theorem grownL_in (seed : Int) (n : Nat) : ∀ x ∈ grownL seed n, 0 ≤ x ∧ x < 97 := grow_in _ _ (by simp)
theorem small_div {i j : Int} (h : 0 < j) (h2 : j < 2 ^ 60) : CDivW i j := by
  refine ⟨h, ?_⟩
  rw [Nat.log2_lt (by omega)]
  have : j.natAbs < 2 ^ 60 := by omega
  exact Nat.lt_of_lt_of_le this (Nat.pow_le_pow_right (by decide) (by decide))
inductive R_grown : List PyData → Res → Prop
  | mk {seed n : Int} : 0 ≤ n → n ≤ 1000 → R_grown [.int seed, .int n] (.val (tupI (grownL seed n.toNat)))
theorem d_grown (T : Txt K mg) : DefOk P w K mg base "grown" ["seed", "many"] 1 R_grown :=
  T.d_grown.ok sc_grown (by decide) (by intro ds r h; cases h <;> rfl) fun f cdv Ar outer s H E hr => ⟨_, (pss_cons (ps_set (i := 2) sc_grown.nd rfl (.inl rfl) (pe_lst pa_nil))
  (pss_cons (ps_set (i := 3) sc_grown.nd rfl (.inl rfl) (pv 0))
  (pss_cons (ps_for PW0 rfl (pi_range1 (by rfl) T.b_range (pa_cons (pv 1) pa_nil)) (pg_name (i := 4) sc_grown.nd rfl (.inl rfl)) (pss_cons (ps_set (i := 3) sc_grown.nd rfl (.inl rfl) (pe_op op_mod (pe_op op_add (pe_op op_mul (pv 3) pe_int) pe_int) pe_int))
  (pss_one (ps_expr (pe_bm PySem.F.plainAttrs_list PySem.F.slot_list_append PySem.F.type_list_append mt_append (pv 2) (pa_cons (pe_op op_mod (pe_op op_fdivW (pv 3) pe_int) (pe_globI (by rfl) T.m_MOD)) pa_nil))))))
  (pss_one (ps_ret (pe_callTy (k_tupOf (K := K)) (by rfl) T.b_tuple (by decide +kernel) (pa_cons (pv 2) pa_nil))))))), fun ds r hR => by
    cases hR with
    | @mk seed n h0 h1 =>
      exact .inl (show SD K E _ [.da (.int seed), .da (.int n), .un, .un, .un] _ from (sd_seq (sd_new eda_nil)
  (sd_seq (sd_set (ed_var rfl))
  (sd_seq (sd_for (S := fun p : Int × List Int => [.da (.int seed), .da (.int n), .ow (mlA K (p.2.map .int)), .da (.int p.1), .un]) (step := growS) (b0 := (seed, [])) (f := .int) (xs := rng 0 n.toNat) (it_rng1 (eda_cons (ed_var rfl) eda_nil) (by omega) (by omega)) (by walk_at "le") (fun pre post x hx => ⟨_, gs_name, .inl (sd_seq (sd_set (ed_mod (ed_add (ed_mul (ed_var rfl) ed_int (by exact .inr (by decide))) ed_int) ed_int (by decide)))
  (SD.weak (sd_append rfl (ed_mod (ed_fdiv (ed_var rfl) ed_int (by exact small_div (by decide) (by decide))) ed_int (by decide)) (by rw [List.length_map, grow_len]; have := (rng_at hx).1; have : LIM = 1000000 := rfl; simp; omega)) (by generalize List.foldl growS (seed, []) pre = q; simp only [growS, List.map_append, List.map_cons, List.map_nil]; walk_at "le")))⟩))
  (sd_freeze 2 rfl (sd_ret (ED.to (ed_cb (eda_cons (ed_var rfl) eda_nil) rc_tuple_l) (by rfl))))))))⟩
inductive R_tag_numbers : List PyData → Res → Prop
  | mk {t : Int} : R_tag_numbers [.int t] (.val (.tuple [.int (t / 97), .int (t % 97)]))
theorem d_tag_numbers (T : Txt K mg) : DefOk P w K mg base "tag_numbers" ["tag"] 1 R_tag_numbers :=
  T.d_tag_numbers.ok sc_tag_numbers (by decide) (by intro ds r h; cases h <;> rfl) fun f cdv Ar outer s H E hr => ⟨_, (pss_one (ps_ret (pe_tup (pa_cons (pe_op op_fdivW (pv 0) (pe_globI (by rfl) T.m_MOD)) (pa_cons (pe_op op_mod (pv 0) (pe_globI (by rfl) T.m_MOD)) pa_nil))))), fun ds r hR => by
    cases hR with
    | @mk t =>
      exact .inl (show SD K E _ [.da (.int t)] _ from (sd_ret (ED.to (ed_tup (eda_cons (ed_fdiv (ed_var rfl) ed_int (by exact small_div (by decide) (by decide))) (eda_cons (ed_mod (ed_var rfl) ed_int (by decide)) eda_nil))) (by rfl))))⟩
inductive R_is_tag : List PyData → Res → Prop
  | mk {t : Int} : R_is_tag [.int t] (.val (.bool (decide (0 ≤ t) && decide (t < 9409))))
theorem d_is_tag (T : Txt K mg) (h_is_under : DefOk P w K mg base "is_under" ["thing", "many"] 2 R_is_under) : DefOk P w K mg base "is_tag" ["thing"] 3 R_is_tag :=
  T.d_is_tag.ok sc_is_tag (by decide) (by intro ds r h; cases h <;> rfl) fun f cdv Ar outer s H E hr => ⟨_, (pss_one (ps_ret (pe_callD h_is_under (hr.mono (by decide)) (by rfl) passL (pa_cons (pv 0) (pa_cons (pe_globI (by rfl) T.m_TAGS) pa_nil))))), fun ds r hR => by
    cases hR with
    | @mk t =>
      exact .inl (show SD K E _ [.da (.int t)] _ from (sd_ret (ED.to (ed_call (eda_cons (ed_var rfl) (eda_cons ed_int eda_nil)) (R_is_under.mk)) (by rfl))))⟩
/-- a rule's condition -/
inductive Cond where
  | waiting (n : Int) | oldest (n : Int) | tick (m r : Int)
def condD : Cond → PyData
  | .waiting n => .tuple [.str "waiting", .int n]
  | .oldest n => .tuple [.str "oldest", .int n]
  | .tick m r => .tuple [.str "tick", .int m, .int r]
def condOk : Cond → Bool
  | .waiting n => decide (1 ≤ n) && decide (n ≤ 5)
  | .oldest n => decide (1 ≤ n) && decide (n ≤ 5)
  | .tick m r => (decide (1 ≤ m) && decide (m ≤ 4)) && (decide (0 ≤ r) && decide (r ≤ m - 1))
inductive R_is_condition : List PyData → Res → Prop
  | w {n} : (decide (1 ≤ n) && decide (n ≤ 5)) = true → R_is_condition [condD (.waiting n)] (.val (.bool true))
  | o {n} : (decide (1 ≤ n) && decide (n ≤ 5)) = true → R_is_condition [condD (.oldest n)] (.val (.bool true))
  | t {m r} : (decide (1 ≤ m) && decide (m ≤ 4)) = true → (decide (0 ≤ r) && decide (r ≤ m - 1)) = true → R_is_condition [condD (.tick m r)] (.val (.bool true))
theorem R_is_condition.mk {c : Cond} (h : condOk c = true) : R_is_condition [condD c] (.val (.bool true)) := by
  cases c with
  | waiting n => exact .w h
  | oldest n => exact .o h
  | tick m r => exact .t (Bool.and_eq_true_iff.mp h).1 (Bool.and_eq_true_iff.mp h).2
theorem d_is_condition (T : Txt K mg) (h_is_between : DefOk P w K mg base "is_between" ["thing", "least", "most"] 2 R_is_between) (h_is_tuple_of : DefOk P w K mg base "is_tuple_of" ["thing", "many"] 1 R_is_tuple_of) : DefOk P w K mg base "is_condition" ["thing"] 3 R_is_condition :=
  T.d_is_condition.ok sc_is_condition (by decide) (by intro ds r h; cases h <;> rfl) fun f cdv Ar outer s H E hr => ⟨_, (pss_cons (ps_if (pt_val (pe_callD h_is_tuple_of (hr.mono (by decide)) (by rfl) passL (pa_cons (pv 0) (pa_cons pe_int pa_nil)))) (pss_one (ps_ret (pe_and (pe_cmpR (k_in (K := K)) (pe_ix (k_ixT (K := K)) (pv 0) pe_int (fun _ _ => rfl)) (pe_tup (pa_cons pe_str (pa_cons pe_str pa_nil))) (by with_unfolding_all rfl)) (pe_one (pe_callD h_is_between (hr.mono (by decide)) (by rfl) passL (pa_cons (pe_ix (k_ixT (K := K)) (pv 0) pe_int (fun _ _ => rfl)) (pa_cons pe_int (pa_cons (pe_globI (by rfl) T.m_MOST_NUMBER) pa_nil)))))))) pss_nil)
  (pss_cons (ps_if (PW.pt (pw_or (pt_not (pt_val (pe_callD h_is_tuple_of (hr.mono (by decide)) (by rfl) passL (pa_cons (pv 0) (pa_cons pe_int pa_nil))))) (pw_or (pt_cmpR op_ne (pe_ix (k_ixT (K := K)) (pv 0) pe_int (fun _ _ => rfl)) pe_str (nomark _)) (pw_or1 (pt_not (pt_val (pe_callD h_is_between (hr.mono (by decide)) (by rfl) passL (pa_cons (pe_ix (k_ixT (K := K)) (pv 0) pe_int (fun _ _ => rfl)) (pa_cons pe_int (pa_cons (pe_globI (by rfl) T.m_MOST_STEP) pa_nil)))))))))) (pss_one (ps_ret pe_bl)) pss_nil)
  (pss_one (ps_ret (pe_callD h_is_between (hr.mono (by decide)) (by rfl) passL (pa_cons (pe_ix (k_ixT (K := K)) (pv 0) pe_int (fun _ _ => rfl)) (pa_cons pe_int (pa_cons (pe_op op_sub (pe_ix (k_ixT (K := K)) (pv 0) pe_int (fun _ _ => rfl)) pe_int) pa_nil)))))))), fun ds r hR => by
    cases hR with
    | @w n h =>
      exact .inl (show SD K E _ [.da (condD (.waiting n))] _ from (sd_ifs (b := true) (ET.to (et_val (ed_call (eda_cons (ed_var rfl) (eda_cons ed_int eda_nil)) R_is_tuple_of.mk)) rfl) (fun hb => (sd_ret_seq (ED.to (ed_and (ed_inS (ed_ixT (ed_var rfl) ed_int rfl rfl) (ed_tup (eda_cons ed_str (eda_cons ed_str eda_nil))) (show isSeqD _ = some (false, (["waiting", "oldest"] : List Str).map .str) from rfl)) (fun hb => (ed_call (eda_cons (ed_ixT (ed_var rfl) ed_int rfl rfl) (eda_cons ed_int (eda_cons ed_int eda_nil))) R_is_between.mk))) (by rw [h]; rfl)))) (fun hb => Bool.noConfusion hb)))
    | @o n h =>
      exact .inl (show SD K E _ [.da (condD (.oldest n))] _ from (sd_ifs (b := true) (ET.to (et_val (ed_call (eda_cons (ed_var rfl) (eda_cons ed_int eda_nil)) R_is_tuple_of.mk)) rfl) (fun hb => (sd_ret_seq (ED.to (ed_and (ed_inS (ed_ixT (ed_var rfl) ed_int rfl rfl) (ed_tup (eda_cons ed_str (eda_cons ed_str eda_nil))) (show isSeqD _ = some (false, (["waiting", "oldest"] : List Str).map .str) from rfl)) (fun hb => (ed_call (eda_cons (ed_ixT (ed_var rfl) ed_int rfl rfl) (eda_cons ed_int (eda_cons ed_int eda_nil))) R_is_between.mk))) (by rw [h]; rfl)))) (fun hb => Bool.noConfusion hb)))
    | @t m r h h2 =>
      exact .inl (show SD K E _ [.da (condD (.tick m r))] _ from (sd_ifs (b := false) (ET.to (et_val (ed_call (eda_cons (ed_var rfl) (eda_cons ed_int eda_nil)) R_is_tuple_of.mk)) (by rfl)) (fun hb => Bool.noConfusion hb) (fun hb => (sd_nexts (sd_ifs (b := false) (ET.to (et_or (et_not (et_val (ed_call (eda_cons (ed_var rfl) (eda_cons ed_int eda_nil)) R_is_tuple_of.mk))) (fun hb => (et_or (et_cmp (ed_neS (ed_ixT (ed_var rfl) ed_int rfl rfl) ed_str)) (fun hb => (et_not (et_val (ed_call (eda_cons (ed_ixT (ed_var rfl) ed_int rfl rfl) (eda_cons ed_int (eda_cons ed_int eda_nil))) (R_is_between.mk)))))))) (by rw [h]; rfl)) (fun hb => Bool.noConfusion hb) (fun hb => (sd_nexts (sd_ret (ED.to (ed_call (eda_cons (ed_ixT (ed_var rfl) ed_int rfl rfl) (eda_cons ed_int (eda_cons (ed_sub (ed_ixT (ed_var rfl) ed_int rfl rfl) ed_int) eda_nil))) (R_is_between.mk)) (by rw [h2]))))))))))⟩
abbrev RRow := List Cond × Int
def rrowD (p : RRow) : PyData := .tuple [.tuple (p.1.map condD), .int p.2]
def rrowOk (p : RRow) : Bool := decide (p.1.length ≤ 3) && (p.1.all condOk && (decide (0 ≤ p.2) && decide (p.2 ≤ 5)))
inductive R_is_rule_row : List PyData → Res → Prop
  | mk {cs : List Cond} {n : Int} : cs.length ≤ 3 → (∀ c ∈ cs, condOk c = true) → (decide (0 ≤ n) && decide (n ≤ 5)) = true → R_is_rule_row [.tuple [.tuple (cs.map condD), .int n]] (.val (.bool true))
theorem R_is_rule_row.of {p : RRow} (h : rrowOk p = true) : R_is_rule_row [rrowD p] (.val (.bool true)) := by
  unfold rrowOk at h
  rw [Bool.and_eq_true, Bool.and_eq_true, List.all_eq_true, decide_eq_true_eq] at h
  exact .mk h.1 h.2.1 h.2.2
theorem all_tt {α : Type} (xs : List α) : (xs.all fun _ => true) = true := by induction xs <;> simp_all
theorem d_is_rule_row (T : Txt K mg) (h_is_between : DefOk P w K mg base "is_between" ["thing", "least", "most"] 2 R_is_between) (h_is_condition : DefOk P w K mg base "is_condition" ["thing"] 3 R_is_condition) (h_is_tuple_of : DefOk P w K mg base "is_tuple_of" ["thing", "many"] 1 R_is_tuple_of) : DefOk P w K mg base "is_rule_row" ["thing"] 4 R_is_rule_row :=
  T.d_is_rule_row.ok sc_is_rule_row (by decide) (by intro ds r h; cases h <;> rfl) fun f cdv Ar outer s H E hr => ⟨_, (pss_cons (ps_if (PW.pt (pw_or (pt_not (pt_val (pe_callD h_is_tuple_of (hr.mono (by decide)) (by rfl) passL (pa_cons (pv 0) (pa_cons pe_int pa_nil))))) (pw_or (pt_not (pt_val (pe_callB (k_isi (K := K)) (by rfl) T.b_isinstance (by decide +kernel) (pa_cons (pe_ix (k_ixT (K := K)) (pv 0) pe_int (fun _ _ => rfl)) (pa_cons (pe_bltn (v := .ty "tuple") (by rfl) T.b_tuple (by decide +kernel) rfl) pa_nil))))) (pw_or1 (pt_cmpR op_gt (pe_callB (k_len (K := K)) (by rfl) T.b_len PySem.boot_len (pa_cons (pe_ix (k_ixT (K := K)) (pv 0) pe_int (fun _ _ => rfl)) pa_nil)) (pe_globI (by rfl) T.m_MOST_CONDITIONS) (nomark _)))))) (pss_one (ps_ret pe_bl)) pss_nil)
  (pss_one (ps_ret (pe_and (pe_callB (k_all (K := K)) (by rfl) T.b_all (by decide +kernel) (pa_cons (pe_lc (own := [("one", 1)]) (g := (gName 1)) (tt := tYes) rfl sc_is_rule_row.nd (k_tup (K := K) (pe_ix (k_ixT (K := K)) (pv 0) pe_int (fun _ _ => rfl))) (blkOk_by (N := N_is_rule_row) (sc := defScope st_is_rule_row) (by decide +kernel)) (fun _ _ _ _ _ => (pg_name (i := 1) sc_is_rule_row.nd rfl (.inl rfl))) (fun _ _ _ _ _ => pts_nil) (fun _ _ _ _ _ => (pe_callD h_is_condition (hr.mono (by decide)) (by rfl) passL (pa_cons (pv 1) pa_nil)))) pa_nil)) (pe_one (pe_callD h_is_between (hr.mono (by decide)) (by rfl) passL (pa_cons (pe_ix (k_ixT (K := K)) (pv 0) pe_int (fun _ _ => rfl)) (pa_cons pe_int (pa_cons (pe_globI (by rfl) T.m_MOST_NUMBER) pa_nil))))))))), fun ds r hR => by
    cases hR with
    | @mk cs n h1 h2 h3 =>
      exact .inl (show SD K E _ [.da (.tuple [.tuple (cs.map condD), .int n]), .un] _ from (sd_ifs (b := false) (ET.to (et_or (et_not (et_val (ed_call (eda_cons (ed_var rfl) (eda_cons ed_int eda_nil)) R_is_tuple_of.mk))) (fun hb => (et_or (et_not (et_val (ed_isi (by rfl) (ed_ixT (ed_var rfl) ed_int rfl rfl) (k_tuple _)))) (fun hb => (et_cmp (ed_gt (ed_cb (eda_cons (ed_ixT (ed_var rfl) ed_int rfl rfl) eda_nil) rc_lenT) ed_int)))))) (by rw [List.length_map]; simp [isTup]; omega)) (fun hb => Bool.noConfusion hb) (fun hb => (sd_nexts (sd_ret (ED.to (ed_and (ed_cb (eda_cons (ed_lc_map  (it_tup (ed_ixT (ed_var rfl) ed_int rfl rfl)) (by have : LIM = 1000000 := rfl; omega) (fun x hx => ⟨_, (gd_name (by decide)), ((ed_call (eda_cons (ed_var rfl) eda_nil) (R_is_condition.mk (h2 x hx)))).to (by rfl)⟩)) eda_nil) rc_allm) (fun hb => (ed_call (eda_cons (ed_ixT (ed_var rfl) ed_int rfl rfl) (eda_cons ed_int (eda_cons ed_int eda_nil))) (R_is_between.mk)))) (by rw [all_tt, h3]; rfl)))))))⟩
abbrev Rule := List RRow
def ruleD (r : Rule) : PyData := .tuple (r.map rrowD)
def ruleOk (r : Rule) : Bool := (decide (1 ≤ r.length) && decide (r.length ≤ 6)) && r.all rrowOk
inductive R_is_rule : List PyData → Res → Prop
  | mk {r : Rule} : ruleOk r = true → R_is_rule [ruleD r] (.val (.bool true))
theorem ruleOk_at {r : Rule} (h : ruleOk r = true) : 1 ≤ r.length ∧ r.length ≤ 6 ∧ ∀ p ∈ r, rrowOk p = true := by
  unfold ruleOk at h
  rw [Bool.and_eq_true, Bool.and_eq_true, List.all_eq_true, decide_eq_true_eq, decide_eq_true_eq] at h
  exact ⟨h.1.1, h.1.2, h.2⟩
theorem d_is_rule (T : Txt K mg) (h_is_rule_row : DefOk P w K mg base "is_rule_row" ["thing"] 4 R_is_rule_row) : DefOk P w K mg base "is_rule" ["thing"] 5 R_is_rule :=
  T.d_is_rule.ok sc_is_rule (by decide) (by intro ds r h; cases h <;> rfl) fun f cdv Ar outer s H E hr => ⟨_, (pss_one (ps_ret (pe_and (pe_callB (k_isi (K := K)) (by rfl) T.b_isinstance (by decide +kernel) (pa_cons (pv 0) (pa_cons (pe_bltn (v := .ty "tuple") (by rfl) T.b_tuple (by decide +kernel) rfl) pa_nil))) (pe_and (pe_chain op_le op_le pe_int (pe_callB (k_len (K := K)) (by rfl) T.b_len PySem.boot_len (pa_cons (pv 0) pa_nil)) (pe_globI (by rfl) T.m_MOST_ROWS)) (pe_one (pe_callB (k_all (K := K)) (by rfl) T.b_all (by decide +kernel) (pa_cons (pe_lc (own := [("row", 1)]) (g := (gName 1)) (tt := tYes) rfl sc_is_rule.nd (k_tup (K := K) (pv 0)) (blkOk_by (N := N_is_rule) (sc := defScope st_is_rule) (by decide +kernel)) (fun _ _ _ _ _ => (pg_name (i := 1) sc_is_rule.nd rfl (.inl rfl))) (fun _ _ _ _ _ => pts_nil) (fun _ _ _ _ _ => (pe_callD h_is_rule_row (hr.mono (by decide)) (by rfl) passL (pa_cons (pv 1) pa_nil)))) pa_nil))))))), fun ds r hR => by
    cases hR with
    | @mk r h =>
      obtain ⟨h1, h2, h3⟩ := ruleOk_at h
      exact .inl (show SD K E _ [.da (ruleD r), .un] _ from (sd_ret (ED.to (ed_and (ed_isi (by rfl) (ed_var rfl) (k_tuple _)) (fun hb => (ed_and (ed_chain ed_int (ed_cb (eda_cons (ed_var rfl) eda_nil) rc_lenT) rv_le (fun hb => ⟨_, ed_int, rv_le⟩)) (fun hb => (ed_cb (eda_cons (ed_lc_map  (it_tup (ed_var rfl)) (by have : LIM = 1000000 := rfl; omega) (fun x hx => ⟨_, (gd_name (by decide)), ((ed_call (eda_cons (ed_var rfl) eda_nil) (R_is_rule_row.of (h3 x hx)))).to (by rfl)⟩)) eda_nil) rc_allm))))) (by rw [all_tt, List.length_map]; simp [ruleD, isTup]; omega))))⟩
def holdsC (c : Cond) (w o t : Int) : Bool := match c with
  | .waiting n => decide (n ≤ w)
  | .oldest n => decide (0 < w) && decide (n ≤ o)
  | .tick m r => decide (t % m = r)
inductive R_holds : List PyData → Res → Prop
  | w {n w o t} : R_holds [condD (.waiting n), .int w, .int o, .int t] (.val (.bool (decide (n ≤ w))))
  | o {n w o t} : R_holds [condD (.oldest n), .int w, .int o, .int t] (.val (.bool (decide (0 < w) && decide (n ≤ o))))
  | t {m r w o t} : 0 < m → R_holds [condD (.tick m r), .int w, .int o, .int t] (.val (.bool (decide (t % m = r))))
theorem R_holds.mk {c : Cond} {w o t : Int} (h : condOk c = true) : R_holds [condD c, .int w, .int o, .int t] (.val (.bool (holdsC c w o t))) := by
  cases c with
  | waiting n => exact .w
  | oldest n => exact .o
  | tick m r =>
    have := (Bool.and_eq_true_iff.mp h).1
    exact .t (by simp at this; omega)
theorem d_holds (T : Txt K mg) : DefOk P w K mg base "holds" ["condition", "waiting", "oldest", "tick"] 1 R_holds :=
  T.d_holds.ok sc_holds (by decide) (by intro ds r h; cases h <;> rfl) fun f cdv Ar outer s H E hr => ⟨_, (pss_cons (ps_if (pt_cmpR op_eq (pe_ix (k_ixT (K := K)) (pv 0) pe_int (fun _ _ => rfl)) pe_str (nomark _)) (pss_one (ps_ret (pe_cmpR op_ge (pv 1) (pe_ix (k_ixT (K := K)) (pv 0) pe_int (fun _ _ => rfl)) (nomark _)))) pss_nil)
  (pss_cons (ps_if (pt_cmpR op_eq (pe_ix (k_ixT (K := K)) (pv 0) pe_int (fun _ _ => rfl)) pe_str (nomark _)) (pss_one (ps_ret (pe_and (pe_cmpR op_gt (pv 1) pe_int (nomark _)) (pe_one (pe_cmpR op_ge (pv 2) (pe_ix (k_ixT (K := K)) (pv 0) pe_int (fun _ _ => rfl)) (nomark _)))))) pss_nil)
  (pss_one (ps_ret (pe_cmpR op_eq (pe_op op_mod (pv 3) (pe_ix (k_ixT (K := K)) (pv 0) pe_int (fun _ _ => rfl))) (pe_ix (k_ixT (K := K)) (pv 0) pe_int (fun _ _ => rfl)) (nomark _)))))), fun ds r hR => by
    cases hR with
    | @w n w0 o t =>
      exact .inl (show SD K E _ [.da (condD (.waiting n)), .da (.int w0), .da (.int o), .da (.int t)] _ from (sd_ifs (b := true) (ET.to (et_cmp (ed_eqS (ed_ixT (ed_var rfl) ed_int rfl rfl) ed_str)) (by rfl)) (fun hb => (sd_ret_seq (ED.to (ed_ge (ed_var rfl) (ed_ixT (ed_var rfl) ed_int rfl rfl)) rfl))) (fun hb => Bool.noConfusion hb)))
    | @o n w0 o t =>
      exact .inl (show SD K E _ [.da (condD (.oldest n)), .da (.int w0), .da (.int o), .da (.int t)] _ from (sd_ifs (b := false) (ET.to (et_cmp (ed_eqS (ed_ixT (ed_var rfl) ed_int rfl rfl) ed_str)) (by rfl)) (fun hb => Bool.noConfusion hb) (fun hb => (sd_nexts (sd_ifs (b := true) (ET.to (et_cmp (ed_eqS (ed_ixT (ed_var rfl) ed_int rfl rfl) ed_str)) (by rfl)) (fun hb => (sd_ret_seq (ED.to (ed_and (ed_gt (ed_var rfl) ed_int) (fun hb => (ed_ge (ed_var rfl) (ed_ixT (ed_var rfl) ed_int rfl rfl)))) (by rfl)))) (fun hb => Bool.noConfusion hb))))))
    | @t m r w0 o t h =>
      exact .inl (show SD K E _ [.da (condD (.tick m r)), .da (.int w0), .da (.int o), .da (.int t)] _ from (sd_ifs (b := false) (ET.to (et_cmp (ed_eqS (ed_ixT (ed_var rfl) ed_int rfl rfl) ed_str)) (by rfl)) (fun hb => Bool.noConfusion hb) (fun hb => (sd_nexts (sd_ifs (b := false) (ET.to (et_cmp (ed_eqS (ed_ixT (ed_var rfl) ed_int rfl rfl) ed_str)) (by rfl)) (fun hb => Bool.noConfusion hb) (fun hb => (sd_nexts (sd_ret (ED.to (ed_eqI (ed_mod (ed_var rfl) (ed_ixT (ed_var rfl) ed_int rfl rfl) (by exact h)) (ed_ixT (ed_var rfl) ed_int rfl rfl)) (by rfl))))))))))⟩
def sentV (p : RRow) (w : Int) : Int := if p.2 = 0 then w else min p.2 w
def sentBy : Rule → Int → Int → Int → Int
  | [], _, _, _ => 0
  | p :: r, w, o, t => if (p.1.all fun c => holdsC c w o t) = true then sentV p w else sentBy r w o t
def sentT (w o t : Int) (_ : Unit) (p : RRow) : Except PyData Unit := turn (p.1.all fun c => holdsC c w o t) (.int (sentV p w)) ()
theorem sent_ended (w o t : Int) : ∀ r : Rule, ended (r.foldlM (sentT w o t) ()) (.int 0) = .int (sentBy r w o t)
  | [] => rfl
  | p :: r => by
    rw [List.foldlM_cons]
    unfold sentBy
    cases h : (p.1.all fun c => holdsC c w o t) with
    | true => unfold sentT; rw [h]; rfl
    | false =>
      have e : sentT w o t () p = .ok () := by unfold sentT; rw [h]; rfl
      rw [e, if_neg (by simp)]
      exact sent_ended w o t r
theorem row_cond {r : Rule} {p : RRow} (h : ruleOk r = true) (hp : p ∈ r) : p.1.length ≤ LIM ∧ ∀ c ∈ p.1, condOk c = true := by
  have h3 := (ruleOk_at h).2.2 p hp
  unfold rrowOk at h3
  rw [Bool.and_eq_true, Bool.and_eq_true, List.all_eq_true, decide_eq_true_eq] at h3
  exact ⟨Nat.le_trans h3.1 (by decide), h3.2.1⟩
inductive R_sent_by : List PyData → Res → Prop
  | mk {r : Rule} {w o t : Int} : ruleOk r = true → R_sent_by [ruleD r, .int w, .int o, .int t] (.val (.int (sentBy r w o t)))
theorem d_sent_by (T : Txt K mg) (h_holds : DefOk P w K mg base "holds" ["condition", "waiting", "oldest", "tick"] 1 R_holds) : DefOk P w K mg base "sent_by" ["rule", "waiting", "oldest", "tick"] 2 R_sent_by :=
  T.d_sent_by.ok sc_sent_by (by decide) (by intro ds r h; cases h <;> rfl) fun f cdv Ar outer s H E hr => ⟨_, (pss_cons (ps_for PW0 rfl (k_tup (K := K) (pv 0)) (k_gtup (K := K) rfl (pgs_cons (pg_name (i := 4) sc_sent_by.nd rfl (.inl rfl)) (pgs_cons (pg_name (i := 5) sc_sent_by.nd rfl (.inl rfl)) pgs_nil))) (pss_one (ps_if (pt_val (pe_callB (k_all (K := K)) (by rfl) T.b_all (by decide +kernel) (pa_cons (pe_lc (own := [("one", 6)]) (g := (gName 6)) (tt := tYes) rfl sc_sent_by.nd (k_tup (K := K) (pv 4)) (blkOk_by (N := N_sent_by) (sc := defScope st_sent_by) (by decide +kernel)) (fun _ _ _ _ _ => (pg_name (i := 6) sc_sent_by.nd rfl (.inl rfl))) (fun _ _ _ _ _ => pts_nil) (fun _ _ _ _ _ => (pe_callD h_holds (hr.mono (by decide)) (by rfl) passL (pa_cons (pv 6) (pa_cons (pv 1) (pa_cons (pv 2) (pa_cons (pv 3) pa_nil))))))) pa_nil))) (pss_one (ps_ret (pe_ifExp (pt_cmpR op_eq (pv 5) pe_int (nomark _)) (pv 1) (pe_callB (call_min2 rfl) (by rfl) T.b_min (by decide +kernel) (pa_cons (pv 5) (pa_cons (pv 1) pa_nil)))))) pss_nil)))
  (pss_one (ps_ret pe_int))), fun ds r hR => by
    cases hR with
    | @mk r w0 o t h =>
      have key := sent_ended w0 o t r
      exact .inl (show SD K E _ [.da (ruleD r), .da (.int w0), .da (.int o), .da (.int t), .un, .un, .un] _ from (sd_forE (S := fun _ : Unit => [.da (ruleD r), .da (.int w0), .da (.int o), .da (.int t), .un, .un, .un]) (step := sentT w0 o t) (b0 := ()) (f := rrowD) (xs := r) (it_tup (ed_var rfl)) (by walk_at "le") (fun pre post x st hx hst => ⟨_, (gs_tup (gs_cons gs_name (gs_cons gs_name gs_nil)) rfl), (turn_if (fun hT => (sd_if (b := true) (ET.to (et_val (ed_cb (eda_cons (ed_lc_map  (it_tup (ed_var rfl)) (by exact (row_cond h (by rw [hx]; simp)).1) (fun z hz => ⟨_, (gd_name (by decide)), ((ed_call (eda_cons (ed_var rfl) (eda_cons (ed_var rfl) (eda_cons (ed_var rfl) (eda_cons (ed_var rfl) eda_nil)))) (R_holds.mk ((row_cond h (by rw [hx]; simp)).2 z hz)))).to (by rfl)⟩)) eda_nil) rc_allm)) (by exact hT)) (fun hb => (sd_ret (ED.to (ed_if (d := .int (sentV x w0)) (et_cmp (ed_eqI (ed_var rfl) ed_int)) (fun hb => ((ed_var rfl)).to (by simp [sentV] at hb ⊢; intro h; exact absurd hb h)) (fun hb => ((ed_cb (eda_cons (ed_var rfl) (eda_cons (ed_var rfl) eda_nil)) rc_min2)).to (by simp [sentV] at hb ⊢; rw [if_neg hb, Int.min_def]; split <;> split <;> omega))) (by rfl)))) (fun hb => Bool.noConfusion hb))) (fun hF => .inl (sd_if (b := false) (ET.to (et_val (ed_cb (eda_cons (ed_lc_map  (it_tup (ed_var rfl)) (by exact (row_cond h (by rw [hx]; simp)).1) (fun z hz => ⟨_, (gd_name (by decide)), ((ed_call (eda_cons (ed_var rfl) (eda_cons (ed_var rfl) (eda_cons (ed_var rfl) (eda_cons (ed_var rfl) eda_nil)))) (R_holds.mk ((row_cond h (by rw [hx]; simp)).2 z hz)))).to (by rfl)⟩)) eda_nil) rc_allm)) (by exact hF)) (fun hb => Bool.noConfusion hb) (fun hb => (SD.weak sd_next (by walk_at "le"))))))⟩) (by intro d hd; rw [hd] at key; rw [← key]; rfl) (fun st hst => (sd_ret (ED.to ed_int (by rw [hst] at key; exact key))))))⟩
structure Net where
  n : Int
  st : List (List Rule)
  w : Int
def stageD (s : List Rule) : PyData := .tuple (s.map ruleD)
def netD (N : Net) : PyData := .tuple [.int N.n, .tuple (N.st.map stageD), .int N.w]
structure NetOk (N : Net) : Prop where
  n2 : 2 ≤ N.n
  n6 : N.n ≤ 6
  s1 : 1 ≤ N.st.length
  s3 : N.st.length ≤ 3
  h1 : ∀ s ∈ N.st, 1 ≤ s.length
  h3 : ∀ s ∈ N.st, s.length ≤ 3
  ru : ∀ s ∈ N.st, ∀ r ∈ s, ruleOk r = true
  w1 : 1 ≤ N.w
  w16 : N.w ≤ 16
inductive R_is_net : List PyData → Res → Prop
  | mk {N : Net} : NetOk N → R_is_net [netD N] (.val (.bool true))
theorem d_is_net (T : Txt K mg) (h_is_between : DefOk P w K mg base "is_between" ["thing", "least", "most"] 2 R_is_between) (h_is_rule : DefOk P w K mg base "is_rule" ["thing"] 5 R_is_rule) (h_is_tuple_of : DefOk P w K mg base "is_tuple_of" ["thing", "many"] 1 R_is_tuple_of) : DefOk P w K mg base "is_net" ["thing"] 6 R_is_net :=
  T.d_is_net.ok sc_is_net (by decide) (by intro ds r h; cases h <;> rfl) fun f cdv Ar outer s H E hr => ⟨_, (pss_cons (ps_if (PW.pt (pw_or (pt_not (pt_val (pe_callD h_is_tuple_of (hr.mono (by decide)) (by rfl) passL (pa_cons (pv 0) (pa_cons pe_int pa_nil))))) (pw_or1 (pt_not (pt_val (pe_callD h_is_between (hr.mono (by decide)) (by rfl) passL (pa_cons (pe_ix (k_ixT (K := K)) (pv 0) pe_int (fun _ _ => rfl)) (pa_cons (pe_globI (by rfl) T.m_FEWEST_PERSONS) (pa_cons (pe_globI (by rfl) T.m_MOST_PERSONS_nets) pa_nil))))))))) (pss_one (ps_ret pe_bl)) pss_nil)
  (pss_cons (ps_if (PW.pt (pw_or (pt_not (pt_val (pe_callB (k_isi (K := K)) (by rfl) T.b_isinstance (by decide +kernel) (pa_cons (pe_ix (k_ixT (K := K)) (pv 0) pe_int (fun _ _ => rfl)) (pa_cons (pe_bltn (v := .ty "tuple") (by rfl) T.b_tuple (by decide +kernel) rfl) pa_nil))))) (pw_or1 (pt_not (pt_chain op_le op_le pe_int (pe_callB (k_len (K := K)) (by rfl) T.b_len PySem.boot_len (pa_cons (pe_ix (k_ixT (K := K)) (pv 0) pe_int (fun _ _ => rfl)) pa_nil)) (pe_globI (by rfl) T.m_MOST_STAGES)))))) (pss_one (ps_ret pe_bl)) pss_nil)
  (pss_cons (ps_for PW0 rfl (k_tup (K := K) (pe_ix (k_ixT (K := K)) (pv 0) pe_int (fun _ _ => rfl))) (pg_name (i := 1) sc_is_net.nd rfl (.inl rfl)) (pss_cons (ps_if (PW.pt (pw_or (pt_not (pt_val (pe_callB (k_isi (K := K)) (by rfl) T.b_isinstance (by decide +kernel) (pa_cons (pv 1) (pa_cons (pe_bltn (v := .ty "tuple") (by rfl) T.b_tuple (by decide +kernel) rfl) pa_nil))))) (pw_or1 (pt_not (pt_chain op_le op_le pe_int (pe_callB (k_len (K := K)) (by rfl) T.b_len PySem.boot_len (pa_cons (pv 1) pa_nil)) (pe_globI (by rfl) T.m_MOST_HOSTS)))))) (pss_one (ps_ret pe_bl)) pss_nil)
  (pss_one (ps_if (pt_not (pt_val (pe_callB (k_all (K := K)) (by rfl) T.b_all (by decide +kernel) (pa_cons (pe_lc (own := [("one", 2)]) (g := (gName 2)) (tt := tYes) rfl sc_is_net.nd (k_tup (K := K) (pv 1)) (blkOk_by (N := N_is_net) (sc := defScope st_is_net) (by decide +kernel)) (fun _ _ _ _ _ => (pg_name (i := 2) sc_is_net.nd rfl (.inl rfl))) (fun _ _ _ _ _ => pts_nil) (fun _ _ _ _ _ => (pe_callD h_is_rule (hr.mono (by decide)) (by rfl) passL (pa_cons (pv 2) pa_nil)))) pa_nil)))) (pss_one (ps_ret pe_bl)) pss_nil))))
  (pss_one (ps_ret (pe_callD h_is_between (hr.mono (by decide)) (by rfl) passL (pa_cons (pe_ix (k_ixT (K := K)) (pv 0) pe_int (fun _ _ => rfl)) (pa_cons pe_int (pa_cons (pe_globI (by rfl) T.m_MOST_WIDTH) pa_nil))))))))), fun ds r hR => by
    cases hR with
    | @mk N h =>
      exact .inl (show SD K E _ [.da (netD N), .un, .un] _ from (sd_ifs (b := false) (ET.to (et_or (et_not (et_val (ed_call (eda_cons (ed_var rfl) (eda_cons ed_int eda_nil)) R_is_tuple_of.mk))) (fun hb => (et_not (et_val (ed_call (eda_cons (ed_ixT (ed_var rfl) ed_int rfl rfl) (eda_cons ed_int (eda_cons ed_int eda_nil))) (R_is_between.mk)))))) (by simp; exact ⟨h.n2, h.n6⟩)) (fun hb => Bool.noConfusion hb) (fun hb => (sd_nexts (sd_ifs (b := false) (ET.to (et_or (et_not (et_val (ed_isi (by rfl) (ed_ixT (ed_var rfl) ed_int rfl rfl) (k_tuple _)))) (fun hb => (et_not (et_cmp (ed_chain ed_int (ed_cb (eda_cons (ed_ixT (ed_var rfl) ed_int rfl rfl) eda_nil) rc_lenT) rv_le (fun hb => ⟨_, ed_int, rv_le⟩)))))) (by rw [List.length_map]; have a := h.s1; have b := h.s3; rw [decide_eq_true (by omega : (1:Int) ≤ N.st.length), decide_eq_true (by omega : (N.st.length : Int) ≤ 3)]; rfl)) (fun hb => Bool.noConfusion hb) (fun hb => (sd_nexts (sd_seq (sd_for (S := fun _ : Unit => [.da (netD N), .un, .un]) (step := fun _ _ => ()) (b0 := ()) (f := stageD) (xs := N.st) (it_tup (ed_ixT (ed_var rfl) ed_int rfl rfl)) (by walk_at "le") (fun pre post x hx => ⟨_, gs_name, .inl (sd_ifs (b := false) (ET.to (et_or (et_not (et_val (ed_isi (by rfl) (ed_var rfl) (k_tuple _)))) (fun hb => (et_not (et_cmp (ed_chain ed_int (ed_cb (eda_cons (ed_var rfl) eda_nil) rc_lenT) rv_le (fun hb => ⟨_, ed_int, rv_le⟩)))))) (by rw [List.length_map]; have a := h.h1 x (by rw [hx]; simp); have b := h.h3 x (by rw [hx]; simp); rw [decide_eq_true (by omega : (1:Int) ≤ x.length), decide_eq_true (by omega : (x.length : Int) ≤ 3)]; rfl)) (fun hb => Bool.noConfusion hb) (fun hb => (sd_nexts (SD.weak (sd_if (b := false) (ET.to (et_not (et_val (ed_cb (eda_cons (ed_lc_map  (it_tup (ed_var rfl)) (by have := h.h3 x (by rw [hx]; simp); have : LIM = 1000000 := rfl; omega) (fun z hz => ⟨_, (gd_name (by decide)), ((ed_call (eda_cons (ed_var rfl) eda_nil) (R_is_rule.mk (h.ru x (by rw [hx]; simp) z hz)))).to (by rfl)⟩)) eda_nil) rc_allm))) (by rw [all_tt]; rfl)) (fun hb => Bool.noConfusion hb) (fun hb => sd_next)) (by walk_at "le")))))⟩))
  (sd_ret (ED.to (ed_call (eda_cons (ed_ixT (ed_var rfl) ed_int rfl rfl) (eda_cons ed_int (eda_cons ed_int eda_nil))) (R_is_between.mk)) (by simp; exact ⟨h.w1, h.w16⟩)))))))))))⟩
inductive R_need_net : List PyData → Res → Prop
  | mk {N : Net} : NetOk N → R_need_net [netD N] (.val .none)
theorem d_need_net (T : Txt K mg) (h_is_net : DefOk P w K mg base "is_net" ["thing"] 6 R_is_net) : DefOk P w K mg base "need_net" ["thing"] 7 R_need_net :=
  T.d_need_net.ok sc_need_net (by decide) (by intro ds r h; cases h <;> rfl) fun f cdv Ar outer s H E hr => ⟨_, (pss_one (ps_if (pt_not (pt_val (pe_callD h_is_net (hr.mono (by decide)) (by rfl) passL (pa_cons (pv 0) pa_nil)))) (pss_one (ps_raiseD T.x_NoNet rfl (takes_of rfl rfl rfl rfl) (by rfl))) pss_nil)), fun ds r hR => by
    cases hR with
    | @mk N h =>
      exact .inr ⟨rfl, _, (show SD K E _ [.da (netD N)] _ from (sd_if (b := false) (ET.to (et_not (et_val (ed_call (eda_cons (ed_var rfl) eda_nil) (R_is_net.mk (by exact h))))) (by rfl)) (fun hb => Bool.noConfusion hb) (fun hb => sd_next)))⟩⟩
def hostCount (N : Net) : Int := (N.st.map fun s => (s.length : Int)).sum
inductive R_host_count : List PyData → Res → Prop
  | mk {N : Net} : NetOk N → R_host_count [netD N] (.val (.int (hostCount N)))
theorem d_host_count (T : Txt K mg) : DefOk P w K mg base "host_count" ["net"] 1 R_host_count :=
  T.d_host_count.ok sc_host_count (by decide) (by intro ds r h; cases h <;> rfl) fun f cdv Ar outer s H E hr => ⟨_, (pss_one (ps_ret (pe_callB (k_sum (K := K)) (by rfl) T.b_sum (by decide +kernel) (pa_cons (pe_lc (own := [("stage", 1)]) (g := (gName 1)) (tt := tYes) rfl sc_host_count.nd (k_tup (K := K) (pe_ix (k_ixT (K := K)) (pv 0) pe_int (fun _ _ => rfl))) (blkOk_by (N := N_host_count) (sc := defScope st_host_count) (by decide +kernel)) (fun _ _ _ _ _ => (pg_name (i := 1) sc_host_count.nd rfl (.inl rfl))) (fun _ _ _ _ _ => pts_nil) (fun _ _ _ _ _ => (pe_callB (k_len (K := K)) (by rfl) T.b_len PySem.boot_len (pa_cons (pv 1) pa_nil)))) pa_nil)))), fun ds r hR => by
    cases hR with
    | @mk N h =>
      exact .inl (show SD K E _ [.da (netD N), .un] _ from (sd_ret (ED.to (ed_cb (eda_cons (ed_lc_map  (it_tup (ed_ixT (ed_var rfl) ed_int rfl rfl)) (by have := h.s3; have : LIM = 1000000 := rfl; omega) (fun x hx => ⟨_, (gd_name (by decide)), ((ed_cb (eda_cons (ed_var rfl) eda_nil) rc_lenT)).to (by rfl)⟩)) eda_nil) rc_summ) (by simp [hostCount]))))⟩
def stageT (h : Int) (last : Int) (p : List Rule × Nat) : Except PyData Int := turn (decide (h < last + (p.1.length : Int))) (.int (p.2 : Nat)) (last + (p.1.length : Int))
def stageBy (N : Net) (h : Int) : PyData := ended (N.st.zipIdx.foldlM (stageT h) 0) .none
inductive R_stage_by : List PyData → Res → Prop
  | mk {N : Net} {h : Int} : R_stage_by [netD N, .int h] (.val (stageBy N h))
theorem d_stage_by (T : Txt K mg) : DefOk P w K mg base "stage_by" ["net", "host"] 1 R_stage_by :=
  T.d_stage_by.ok sc_stage_by (by decide) (by intro ds r h; cases h <;> rfl) fun f cdv Ar outer s H E hr => ⟨_, (pss_cons (ps_set (i := 2) sc_stage_by.nd rfl (.inl rfl) pe_int)
  (pss_cons (ps_for PW0 rfl (pi_enumM (K := K) (by rfl) T.b_enumerate (pa_cons (pe_ix (k_ixT (K := K)) (pv 0) pe_int (fun _ _ => rfl)) pa_nil)) (k_gtup (K := K) rfl (pgs_cons (pg_name (i := 3) sc_stage_by.nd rfl (.inl rfl)) (pgs_cons (pg_name (i := 4) sc_stage_by.nd rfl (.inl rfl)) pgs_nil))) (pss_cons (ps_aug (i := 2) sc_stage_by.nd rfl (.inl rfl) (pe_callB (k_len (K := K)) (by rfl) T.b_len PySem.boot_len (pa_cons (pv 4) pa_nil)) ip_add)
  (pss_one (ps_if (pt_cmpR op_lt (pv 1) (pv 2) (nomark _)) (pss_one (ps_ret (pv 3))) pss_nil))))
  (pss_one (ps_ret pe_non)))), fun ds r hR => by
    cases hR with
    | @mk N h =>
      have key : ended (N.st.zipIdx.foldlM (stageT h) 0) .none = stageBy N h := rfl
      exact .inl (show SD K E _ [.da (netD N), .da (.int h), .un, .un, .un] _ from (sd_seq (sd_set ed_int)
  (sd_forE (S := fun last : Int => [.da (netD N), .da (.int h), .da (.int last), .un, .un]) (step := stageT h) (b0 := 0) (f := fun p : List Rule × Nat => .tuple [.int (p.2 : Nat), stageD p.1]) (xs := N.st.zipIdx) (it_enum (eda_cons (ed_ixT (ed_var rfl) ed_int rfl rfl) eda_nil) (by exact (show isSeqD _ = some (false, N.st.map stageD) from rfl))) (by walk_at "le") (fun pre post x st hx hst => ⟨_, (gs_tup (gs_cons gs_name (gs_cons gs_name gs_nil)) rfl), (turn_if (fun hT => (sd_seq (sd_aug rfl (ed_cb (eda_cons (ed_var rfl) eda_nil) rc_lenT) rv_addI) (sd_if (b := true) (ET.to (et_cmp (ed_lt (ed_var rfl) (ed_var rfl))) (by have e : (x.1.map ruleD).length = x.1.length := List.length_map _; rw [e]; exact hT)) (fun hb => (sd_ret (ED.to (ed_var rfl) (by rfl)))) (fun hb => Bool.noConfusion hb)))) (fun hF => .inl (sd_seq (sd_aug rfl (ed_cb (eda_cons (ed_var rfl) eda_nil) rc_lenT) rv_addI) (sd_if (b := false) (ET.to (et_cmp (ed_lt (ed_var rfl) (ed_var rfl))) (by have e : (x.1.map ruleD).length = x.1.length := List.length_map _; rw [e]; exact hF)) (fun hb => Bool.noConfusion hb) (fun hb => (SD.weak sd_next (by have e : (x.1.map ruleD).length = x.1.length := List.length_map _; rw [e]; walk_at "le")))))))⟩) (by intro d hd; rw [hd] at key; rw [← key]; rfl) (fun st hst => (sd_ret (ED.to ed_non (by rw [hst] at key; exact key)))))))⟩
def firstOf (N : Net) (k : Nat) : Int := ((N.st.take k).map fun s => (s.length : Int)).sum
def hostsBy (N : Net) (k : Nat) : List Int := rng (firstOf N k) (N.st.getD k []).length
theorem sum_nn {α : Type} (g : α → Int) : ∀ (xs : List α), (∀ x ∈ xs, 0 ≤ g x ∧ g x ≤ 1000) → 0 ≤ (xs.map g).sum ∧ (xs.map g).sum ≤ 1000 * (xs.length : Int)
  | [], _ => by simp
  | x :: xs, h => by
    have h1 := h x List.mem_cons_self
    have h2 := sum_nn g xs fun y hy => h y (List.mem_cons_of_mem _ hy)
    simp only [List.map_cons, List.sum_cons, List.length_cons]
    omega
theorem first_in {N : Net} (h : NetOk N) (k : Nat) : 0 ≤ firstOf N k ∧ firstOf N k ≤ 3000 := by
  have h1 := sum_nn (fun s : List Rule => (s.length : Int)) (N.st.take k) fun s hs => by have := h.h3 s (List.mem_of_mem_take hs); omega
  have h2 := h.s3
  have h3 : (N.st.take k).length ≤ 3 := by rw [List.length_take]; omega
  unfold firstOf
  omega
theorem getD_mem {α : Type} {xs : List α} {d : α} {k : Nat} (h : k < xs.length) : xs.getD k d ∈ xs := by
  rw [List.getD_eq_getElem?_getD, List.getElem?_eq_getElem h]; simp
inductive R_hosts_by : List PyData → Res → Prop
  | mk {N : Net} {k : Int} : NetOk N → 0 ≤ k → k < N.st.length → R_hosts_by [netD N, .int k] (.val (.list ((hostsBy N k.toNat).map .int)))
theorem d_hosts_by (T : Txt K mg) : DefOk P w K mg base "hosts_by" ["net", "stage"] 1 R_hosts_by :=
  T.d_hosts_by.ok sc_hosts_by (by decide) (by intro ds r h; cases h <;> rfl) fun f cdv Ar outer s H E hr => ⟨_, (pss_cons (ps_set (i := 2) sc_hosts_by.nd rfl (.inl rfl) (pe_callB (k_sum (K := K)) (by rfl) T.b_sum (by decide +kernel) (pa_cons (pe_lc (own := [("one", 3)]) (g := (gName 3)) (tt := tYes) rfl sc_hosts_by.nd (k_tup (K := K) (pe_slice (k_slT (K := K)) (pe_ix (k_ixT (K := K)) (pv 0) pe_int (fun _ _ => rfl)) po_none (po_some (pv 1)))) (blkOk_by (N := N_hosts_by) (sc := defScope st_hosts_by) (by decide +kernel)) (fun _ _ _ _ _ => (pg_name (i := 3) sc_hosts_by.nd rfl (.inl rfl))) (fun _ _ _ _ _ => pts_nil) (fun _ _ _ _ _ => (pe_callB (k_len (K := K)) (by rfl) T.b_len PySem.boot_len (pa_cons (pv 3) pa_nil)))) pa_nil)))
  (pss_one (ps_ret (pe_listRg rfl (by rfl) T.b_list (prg_2 (by rfl) T.b_range (pv 2) (pe_op op_add (pv 2) (pe_callB (k_len (K := K)) (by rfl) T.b_len PySem.boot_len (pa_cons (pe_ix (k_ixT (K := K)) (pe_ix (k_ixT (K := K)) (pv 0) pe_int (fun _ _ => rfl)) (pv 1) (fun _ _ => rfl)) pa_nil)))))))), fun ds r hR => by
    cases hR with
    | @mk N k h h0 h1 =>
      have hf := first_in h k.toNat
      have hs := h.h3 (N.st.getD k.toNat []) (getD_mem (by omega))
      exact .inl (show SD K E _ [.da (netD N), .da (.int k), .un, .un] _ from (sd_seq (sd_set (ED.to (ed_cb (eda_cons (ed_lc_map (f := stageD) (xs := N.st.take k.toNat) (it_tup (ED.to (ed_slT (ed_ixT (ed_var rfl) ed_int rfl rfl) edo_none (edo_some (ed_var rfl))) (by exact (show PyData.tuple (cutD (N.st.map stageD) none (some k)) = .tuple ((N.st.take k.toNat).map stageD) by rw [cutD_to _ h0, List.map_take])))) (by have := h.s3; have : LIM = 1000000 := rfl; rw [List.length_take]; omega) (fun x hx => ⟨_, (gd_name (by decide)), ((ed_cb (eda_cons (ed_var rfl) eda_nil) rc_lenT)).to (by exact (show PyData.int _ = .int _ by rw [List.length_map]))⟩)) eda_nil) rc_summ) (by exact (show PyData.int _ = .int (firstOf N k.toNat) from rfl))))
  (sd_ret (ED.to (ed_listRg (ed_var rfl) (ed_add (ed_var rfl) (ed_cb (eda_cons (ed_ixTm (f := stageD) [] (ed_ixT (ed_var rfl) ed_int rfl rfl) (ed_var rfl) (by exact h0) (by exact h1)) eda_nil) rc_lenT)) (by exact hf.1) (by omega) (by rw [List.length_map]; omega) (by rw [List.length_map]; omega)) (by rw [List.length_map]; unfold hostsBy; congr 3; omega)))))⟩
def allRules (N : Net) : List Rule := N.st.flatMap fun s => s
theorem rules_len {N : Net} (h : NetOk N) : ((allRules N).length : Int) = hostCount N ∧ (allRules N).length ≤ LIM := by
  have e : ((allRules N).length : Int) = hostCount N := by
    unfold allRules hostCount
    generalize N.st = l
    induction l with
    | nil => rfl
    | cons s l ih => rw [List.flatMap_cons, List.length_append, List.map_cons, List.sum_cons, ← ih]; omega
  refine ⟨e, ?_⟩
  have := first_in h N.st.length
  unfold firstOf at this
  rw [List.take_length] at this
  unfold hostCount at e
  have : LIM = 1000000 := rfl
  omega
inductive R_rule_by : List PyData → Res → Prop
  | mk {N : Net} {k : Int} : NetOk N → 0 ≤ k → k < hostCount N → R_rule_by [netD N, .int k] (.val (ruleD ((allRules N).getD k.toNat [])))
theorem d_rule_by (T : Txt K mg) : DefOk P w K mg base "rule_by" ["net", "host"] 1 R_rule_by :=
  T.d_rule_by.ok sc_rule_by (by decide) (by intro ds r h; cases h <;> rfl) fun f cdv Ar outer s H E hr => ⟨_, (pss_one (ps_ret (pe_ix (k_ixL (K := K)) (pe_lc2 (own := [("stage", 2), ("rule", 3)]) (vs1 := [3]) (g := (gName 2)) (g1 := (gName 3)) (tt := tYes) (tt1 := tYes) rfl sc_rule_by.nd (k_tup (K := K) (pe_ix (k_ixT (K := K)) (pv 0) pe_int (fun _ _ => rfl))) (blkOk_by (N := N_rule_by) (sc := defScope st_rule_by) (by decide +kernel)) (by decide) (fun _ _ _ _ _ => (pg_name (i := 2) sc_rule_by.nd rfl (.inl rfl))) (fun _ _ _ _ _ => pts_nil) (fun _ _ _ _ _ => (k_tup (K := K) (pv 2))) (fun _ _ _ _ _ => (pg_name (i := 3) sc_rule_by.nd rfl (.inl rfl))) (fun _ _ _ _ _ => pts_nil) (fun _ _ _ _ _ => (pv 3))) (pv 1) (fun _ _ => rfl)))), fun ds r hR => by
    cases hR with
    | @mk N k h h0 h1 =>
      obtain ⟨e1, e2⟩ := rules_len h
      have e3 : (N.st.flatMap fun s => s.map ruleD) = (allRules N).map ruleD := by unfold allRules; rw [List.map_flatMap]
      exact .inl (show SD K E _ [.da (netD N), .da (.int k), .un, .un] _ from (sd_ret (ED.to (ed_ixLm (f := ruleD) (xs := allRules N) [] (ED.to (ed_lc2_map (f := stageD) (sub := fun s => s.map ruleD) (it_tup (ed_ixT (ed_var rfl) ed_int rfl rfl)) (by rw [e3, List.length_map]; exact e2) (fun x hx => ⟨_, (gd_name (by decide)), (inner_map (it_tup (ed_var rfl)) (fun y hy => ⟨_, (gd_name (by decide)), ((ed_var rfl)).to (by rfl)⟩))⟩)) (by exact (show PyData.list (N.st.flatMap fun s => s.map ruleD) = .list ((allRules N).map ruleD) by rw [e3]))) (ed_var rfl) (by exact h0) (by omega)) (by rfl))))⟩
def longOf (N : Net) : Int := 3 * (N.st.length : Int) + N.w
inductive R_long_of : List PyData → Res → Prop
  | mk {N : Net} : R_long_of [netD N] (.val (.int (longOf N)))
theorem d_long_of (T : Txt K mg) : DefOk P w K mg base "long_of" ["net"] 1 R_long_of :=
  T.d_long_of.ok sc_long_of (by decide) (by intro ds r h; cases h <;> rfl) fun f cdv Ar outer s H E hr => ⟨_, (pss_one (ps_ret (pe_op op_add (pe_op op_mul (pe_globI (by rfl) T.m_HEAD) (pe_callB (k_len (K := K)) (by rfl) T.b_len PySem.boot_len (pa_cons (pe_ix (k_ixT (K := K)) (pv 0) pe_int (fun _ _ => rfl)) pa_nil))) (pe_ix (k_ixT (K := K)) (pv 0) pe_int (fun _ _ => rfl))))), fun ds r hR => by
    cases hR with
    | @mk N =>
      exact .inl (show SD K E _ [.da (netD N)] _ from (sd_ret (ED.to (ed_add (ed_mul ed_int (ed_cb (eda_cons (ed_ixT (ed_var rfl) ed_int rfl rfl) eda_nil) rc_lenT) (by exact .inl (by decide))) (ed_ixT (ed_var rfl) ed_int rfl rfl)) (by simp [longOf]))))⟩
structure RouteOk (N : Net) (route : List Int) : Prop where
  len : route.length = N.st.length
  un : ∀ h ∈ route, 0 ≤ h ∧ h < hostCount N
  st : ∀ p ∈ route.zipIdx, stageBy N p.1 = .int (p.2 : Nat)
inductive R_is_route : List PyData → Res → Prop
  | mk {N : Net} {route : List Int} : NetOk N → RouteOk N route → R_is_route [netD N, tupI route] (.val (.bool true))
theorem RouteOk.stage {N : Net} {route : List Int} (h : RouteOk N route) {p : Int × Nat} (hp : p ∈ route.zipIdx) : R_stage_by [netD N, .int p.1] (.val (.int (p.2 : Nat))) := by
  have := R_stage_by.mk (N := N) (h := p.1)
  rw [h.st p hp] at this
  exact this
theorem all_of {α : Type} {xs : List α} {p : α → Bool} (h : ∀ x ∈ xs, p x = true) : xs.all p = true := List.all_eq_true.mpr h
theorem lim4 {n : Nat} (h : n ≤ 20) : n ≤ LIM := Nat.le_trans h (by decide)
theorem d_is_route (T : Txt K mg) (h_host_count : DefOk P w K mg base "host_count" ["net"] 1 R_host_count) (h_is_tuple_of : DefOk P w K mg base "is_tuple_of" ["thing", "many"] 1 R_is_tuple_of) (h_is_under : DefOk P w K mg base "is_under" ["thing", "many"] 2 R_is_under) (h_stage_by : DefOk P w K mg base "stage_by" ["net", "host"] 1 R_stage_by) : DefOk P w K mg base "is_route" ["net", "thing"] 3 R_is_route :=
  T.d_is_route.ok sc_is_route (by decide) (by intro ds r h; cases h <;> rfl) fun f cdv Ar outer s H E hr => ⟨_, (pss_cons (ps_if (PW.pt (pw_or (pt_not (pt_val (pe_callD h_is_tuple_of (hr.mono (by decide)) (by rfl) passL (pa_cons (pv 1) (pa_cons (pe_callB (k_len (K := K)) (by rfl) T.b_len PySem.boot_len (pa_cons (pe_ix (k_ixT (K := K)) (pv 0) pe_int (fun _ _ => rfl)) pa_nil)) pa_nil))))) (pw_or1 (pt_not (pt_val (pe_callB (k_all (K := K)) (by rfl) T.b_all (by decide +kernel) (pa_cons (pe_lc (own := [("host", 3)]) (g := (gName 3)) (tt := tYes) rfl sc_is_route.nd (k_tup (K := K) (pv 1)) (blkOk_by (N := N_is_route) (sc := defScope st_is_route) (by decide +kernel)) (fun _ _ _ _ _ => (pg_name (i := 3) sc_is_route.nd rfl (.inl rfl))) (fun _ _ _ _ _ => pts_nil) (fun _ _ _ _ _ => (pe_callD h_is_under (hr.mono (by decide)) (by rfl) passL (pa_cons (pv 3) (pa_cons (pe_callD h_host_count (hr.mono (by decide)) (by rfl) passL (pa_cons (pv 0) pa_nil)) pa_nil))))) pa_nil))))))) (pss_one (ps_ret pe_bl)) pss_nil)
  (pss_one (ps_ret (pe_callB (k_all (K := K)) (by rfl) T.b_all (by decide +kernel) (pa_cons (pe_lc (own := [("stage", 2), ("host", 3)]) (g := (gTup K 2 (gCons (gName 2) (gCons (gName 3) gNil)))) (tt := tYes) rfl sc_is_route.nd (pi_enumM (K := K) (by rfl) T.b_enumerate (pa_cons (pv 1) pa_nil)) (blkOk_by (N := N_is_route) (sc := defScope st_is_route) (by decide +kernel)) (fun _ _ _ _ _ => (k_gtup (K := K) rfl (pgs_cons (pg_name (i := 2) sc_is_route.nd rfl (.inl rfl)) (pgs_cons (pg_name (i := 3) sc_is_route.nd rfl (.inl rfl)) pgs_nil)))) (fun _ _ _ _ _ => pts_nil) (fun _ _ _ _ _ => (pe_cmpR (k_eqD hr.units (K := K)) (pe_callD h_stage_by (hr.mono (by decide)) (by rfl) passL (pa_cons (pv 0) (pa_cons (pv 3) pa_nil))) (pv 2) (nomark _)))) pa_nil))))), fun ds r hR => by
    cases hR with
    | @mk N route hN h =>
      have h3 := hN.s3
      have hl := h.len
      exact .inl (show SD K E _ [.da (netD N), .da (tupI route), .un, .un] _ from (sd_ifs (b := false) (ET.to (et_or (et_not (et_val (ed_call (eda_cons (ed_var rfl) (eda_cons (ed_cb (eda_cons (ed_ixT (ed_var rfl) ed_int rfl rfl) eda_nil) rc_lenT) eda_nil)) R_is_tuple_of.mk))) (fun hb => (et_not (et_val (ed_cb (eda_cons (ed_lc_map  (it_tup (ed_var rfl)) (by exact lim4 (by omega)) (fun x hx => ⟨_, (gd_name (by decide)), ((ed_call (eda_cons (ed_var rfl) (eda_cons (ed_call (eda_cons (ed_var rfl) eda_nil) (R_host_count.mk hN)) eda_nil)) R_is_under.mk)).to (by rfl)⟩)) eda_nil) rc_allm))))) (by rw [all_of (fun x hx => by simpa using h.un x hx), List.length_map, List.length_map, hl]; simp)) (fun hb => Bool.noConfusion hb) (fun hb => (sd_nexts (sd_ret (ED.to (ed_cb (eda_cons (ed_lc_map  (it_enum (eda_cons (ed_var rfl) eda_nil) (by exact (show isSeqD _ = some (false, route.map .int) from rfl))) (by rw [List.length_zipIdx]; exact lim4 (by omega)) (fun x hx => ⟨_, (gd_tup (gd_cons (gd_name (by decide)) (gd_cons (gd_name (by decide)) gd_nil)) rfl), ((ed_eqD (ed_call (eda_cons (ed_var rfl) (eda_cons (ed_var rfl) eda_nil)) (h.stage hx)) (ed_var rfl) (by rfl) (by rfl))).to (by exact (show PyData.bool _ = .bool true by simp [PyData.eqv]))⟩)) eda_nil) rc_allm) (by rw [all_tt])))))))⟩
structure WayOk (N : Net) (route : List Int) (r : Int) (tags : List Int) : Prop where
  ro : RouteOk N route
  r0 : 0 ≤ r
  rn : r < N.n
  tl : tags.length = N.st.length + 1
  tg : ∀ t ∈ tags, 0 ≤ t ∧ t < 9409
inductive R_is_way : List PyData → Res → Prop
  | mk {N : Net} {route tags : List Int} {r : Int} : NetOk N → WayOk N route r tags → R_is_way [netD N, tupI route, .int r, tupI tags] (.val (.bool true))
theorem d_is_way (T : Txt K mg) (h_is_route : DefOk P w K mg base "is_route" ["net", "thing"] 3 R_is_route) (h_is_tag : DefOk P w K mg base "is_tag" ["thing"] 3 R_is_tag) (h_is_tuple_of : DefOk P w K mg base "is_tuple_of" ["thing", "many"] 1 R_is_tuple_of) (h_is_under : DefOk P w K mg base "is_under" ["thing", "many"] 2 R_is_under) : DefOk P w K mg base "is_way" ["net", "route", "reader", "tags"] 4 R_is_way :=
  T.d_is_way.ok sc_is_way (by decide) (by intro ds r h; cases h <;> rfl) fun f cdv Ar outer s H E hr => ⟨_, (pss_cons (ps_if (PW.pt (pw_or (pt_not (pt_val (pe_callD h_is_route (hr.mono (by decide)) (by rfl) passL (pa_cons (pv 0) (pa_cons (pv 1) pa_nil))))) (pw_or1 (pt_not (pt_val (pe_callD h_is_under (hr.mono (by decide)) (by rfl) passL (pa_cons (pv 2) (pa_cons (pe_ix (k_ixT (K := K)) (pv 0) pe_int (fun _ _ => rfl)) pa_nil)))))))) (pss_one (ps_ret pe_bl)) pss_nil)
  (pss_one (ps_ret (pe_and (pe_callD h_is_tuple_of (hr.mono (by decide)) (by rfl) passL (pa_cons (pv 3) (pa_cons (pe_op op_add (pe_callB (k_len (K := K)) (by rfl) T.b_len PySem.boot_len (pa_cons (pe_ix (k_ixT (K := K)) (pv 0) pe_int (fun _ _ => rfl)) pa_nil)) pe_int) pa_nil))) (pe_one (pe_callB (k_all (K := K)) (by rfl) T.b_all (by decide +kernel) (pa_cons (pe_lc (own := [("tag", 4)]) (g := (gName 4)) (tt := tYes) rfl sc_is_way.nd (k_tup (K := K) (pv 3)) (blkOk_by (N := N_is_way) (sc := defScope st_is_way) (by decide +kernel)) (fun _ _ _ _ _ => (pg_name (i := 4) sc_is_way.nd rfl (.inl rfl))) (fun _ _ _ _ _ => pts_nil) (fun _ _ _ _ _ => (pe_callD h_is_tag (hr.mono (by decide)) (by rfl) passL (pa_cons (pv 4) pa_nil)))) pa_nil))))))), fun ds r hR => by
    cases hR with
    | @mk N route tags r hN h =>
      have h3 := hN.s3
      have hl := h.tl
      exact .inl (show SD K E _ [.da (netD N), .da (tupI route), .da (.int r), .da (tupI tags), .un] _ from (sd_ifs (b := false) (ET.to (et_or (et_not (et_val (ed_call (eda_cons (ed_var rfl) (eda_cons (ed_var rfl) eda_nil)) (R_is_route.mk hN h.ro)))) (fun hb => (et_not (et_val (ed_call (eda_cons (ed_var rfl) (eda_cons (ed_ixT (ed_var rfl) ed_int rfl rfl) eda_nil)) (R_is_under.mk)))))) (by simp; exact ⟨h.r0, h.rn⟩)) (fun hb => Bool.noConfusion hb) (fun hb => (sd_nexts (sd_ret (ED.to (ed_and (ed_call (eda_cons (ed_var rfl) (eda_cons (ed_add (ed_cb (eda_cons (ed_ixT (ed_var rfl) ed_int rfl rfl) eda_nil) rc_lenT) ed_int) eda_nil)) R_is_tuple_of.mk) (fun hb => (ed_cb (eda_cons (ed_lc_map  (it_tup (ed_var rfl)) (by exact lim4 (by omega)) (fun x hx => ⟨_, (gd_name (by decide)), ((ed_call (eda_cons (ed_var rfl) eda_nil) (R_is_tag.mk))).to (by rfl)⟩)) eda_nil) rc_allm))) (by rw [all_of (fun x hx => by simpa using h.tg x hx), List.length_map, List.length_map, hl]; simp)))))))⟩
structure Order where
  t : Int
  w : Int
  ro : List Int
  r : Int
  tg : List Int
  b : List Int
def orderD (o : Order) : PyData := .tuple [.int o.t, .int o.w, tupI o.ro, .int o.r, tupI o.tg, tupI o.b]
structure OrderOk (N : Net) (o : Order) : Prop where
  t0 : 0 ≤ o.t
  t1 : o.t ≤ 40
  w0 : 0 ≤ o.w
  wn : o.w < N.n
  way : WayOk N o.ro o.r o.tg
  bl : (o.b.length : Int) = N.w
  bin : allUnder o.b 97 = true
inductive R_is_order : List PyData → Res → Prop
  | mk {N : Net} {o : Order} : NetOk N → OrderOk N o → R_is_order [netD N, orderD o] (.val (.bool true))
theorem d_is_order (T : Txt K mg) (h_is_between : DefOk P w K mg base "is_between" ["thing", "least", "most"] 2 R_is_between) (h_is_row : DefOk P w K mg base "is_row" ["many", "thing"] 3 R_is_row) (h_is_tuple_of : DefOk P w K mg base "is_tuple_of" ["thing", "many"] 1 R_is_tuple_of) (h_is_under : DefOk P w K mg base "is_under" ["thing", "many"] 2 R_is_under) (h_is_way : DefOk P w K mg base "is_way" ["net", "route", "reader", "tags"] 4 R_is_way) : DefOk P w K mg base "is_order" ["net", "thing"] 5 R_is_order :=
  T.d_is_order.ok sc_is_order (by decide) (by intro ds r h; cases h <;> rfl) fun f cdv Ar outer s H E hr => ⟨_, (pss_cons (ps_if (PW.pt (pw_or (pt_not (pt_val (pe_callD h_is_tuple_of (hr.mono (by decide)) (by rfl) passL (pa_cons (pv 1) (pa_cons pe_int pa_nil))))) (pw_or (pt_not (pt_val (pe_callD h_is_between (hr.mono (by decide)) (by rfl) passL (pa_cons (pe_ix (k_ixT (K := K)) (pv 1) pe_int (fun _ _ => rfl)) (pa_cons pe_int (pa_cons (pe_globI (by rfl) T.m_MOST_TICK) pa_nil)))))) (pw_or1 (pt_not (pt_val (pe_callD h_is_under (hr.mono (by decide)) (by rfl) passL (pa_cons (pe_ix (k_ixT (K := K)) (pv 1) pe_int (fun _ _ => rfl)) (pa_cons (pe_ix (k_ixT (K := K)) (pv 0) pe_int (fun _ _ => rfl)) pa_nil))))))))) (pss_one (ps_ret pe_bl)) pss_nil)
  (pss_one (ps_ret (pe_and (pe_callD h_is_way (hr.mono (by decide)) (by rfl) passL (pa_cons (pv 0) (pa_cons (pe_ix (k_ixT (K := K)) (pv 1) pe_int (fun _ _ => rfl)) (pa_cons (pe_ix (k_ixT (K := K)) (pv 1) pe_int (fun _ _ => rfl)) (pa_cons (pe_ix (k_ixT (K := K)) (pv 1) pe_int (fun _ _ => rfl)) pa_nil))))) (pe_one (pe_callD h_is_row (hr.mono (by decide)) (by rfl) passL (pa_cons (pe_ix (k_ixT (K := K)) (pv 0) pe_int (fun _ _ => rfl)) (pa_cons (pe_ix (k_ixT (K := K)) (pv 1) pe_int (fun _ _ => rfl)) pa_nil)))))))), fun ds r hR => by
    cases hR with
    | @mk N o hN h =>
      have hw := hN.w16
      have hbl := h.bl
      exact .inl (show SD K E _ [.da (netD N), .da (orderD o)] _ from (sd_ifs (b := false) (ET.to (et_or (et_not (et_val (ed_call (eda_cons (ed_var rfl) (eda_cons ed_int eda_nil)) R_is_tuple_of.mk))) (fun hb => (et_or (et_not (et_val (ed_call (eda_cons (ed_ixT (ed_var rfl) ed_int rfl rfl) (eda_cons ed_int (eda_cons ed_int eda_nil))) (R_is_between.mk)))) (fun hb => (et_not (et_val (ed_call (eda_cons (ed_ixT (ed_var rfl) ed_int rfl rfl) (eda_cons (ed_ixT (ed_var rfl) ed_int rfl rfl) eda_nil)) (R_is_under.mk)))))))) (by simp; exact ⟨⟨h.t0, h.t1⟩, h.w0, h.wn⟩)) (fun hb => Bool.noConfusion hb) (fun hb => (sd_nexts (sd_ret (ED.to (ed_and (ed_call (eda_cons (ed_var rfl) (eda_cons (ed_ixT (ed_var rfl) ed_int rfl rfl) (eda_cons (ed_ixT (ed_var rfl) ed_int rfl rfl) (eda_cons (ed_ixT (ed_var rfl) ed_int rfl rfl) eda_nil)))) (R_is_way.mk hN h.way)) (fun hb => (ed_call (eda_cons (ed_ixT (ed_var rfl) ed_int rfl rfl) (eda_cons (ed_ixT (ed_var rfl) ed_int rfl rfl) eda_nil)) (R_is_row.mk (lim4 (by omega)))))) (by simp [h.bin, hbl])))))))⟩
def placesOf (ro : List Int) (r : Int) (tg : List Int) : List (List Int) := ((ro.map (fun h => [0, h]) ++ [[1, r]]).zip tg).map fun p => p.1 ++ [p.2]
inductive R_places_of : List PyData → Res → Prop
  | mk {ro tg : List Int} {r : Int} : ro.length ≤ 1000 → R_places_of [tupI ro, .int r, tupI tg] (.val (.list ((placesOf ro r tg).map tupI)))
theorem places_all2 {ro : List Int} {r : Int} {tg : List Int} {p : List Int × Int} (h : p ∈ (ro.map (fun h => [0, h]) ++ [[1, r]]).zip tg) : p.1.length = 2 := by
  have := (List.of_mem_zip h).1
  rcases List.mem_append.mp this with h | h
  · obtain ⟨x, _, e⟩ := List.mem_map.mp h; rw [← e]; rfl
  · have : p.1 = [1, r] := by simpa using h
    rw [this]; rfl
theorem d_places_of (T : Txt K mg) : DefOk P w K mg base "places_of" ["route", "reader", "tags"] 1 R_places_of :=
  T.d_places_of.ok sc_places_of (by decide) (by intro ds r h; cases h <;> rfl) fun f cdv Ar outer s H E hr => ⟨_, (pss_cons (ps_set (i := 3) sc_places_of.nd rfl (.inl rfl) (pe_op op_cat (pe_lc (own := [("host", 6)]) (g := (gName 6)) (tt := tYes) rfl sc_places_of.nd (k_tup (K := K) (pv 0)) (blkOk_by (N := N_places_of) (sc := defScope st_places_of) (by decide +kernel)) (fun _ _ _ _ _ => (pg_name (i := 6) sc_places_of.nd rfl (.inl rfl))) (fun _ _ _ _ _ => pts_nil) (fun _ _ _ _ _ => (pe_tup (pa_cons (pe_globI (by rfl) T.m_HOST) (pa_cons (pv 6) pa_nil))))) (pe_lst (pa_cons (pe_tup (pa_cons (pe_globI (by rfl) T.m_PERSON) (pa_cons (pv 1) pa_nil))) pa_nil))))
  (pss_one (ps_ret (pe_lc (own := [("place", 4), ("tag", 5)]) (g := (gTup K 2 (gCons (gName 4) (gCons (gName 5) gNil)))) (tt := tYes) rfl sc_places_of.nd (pi_zipM (K := K) (by rfl) T.b_zip (pa_cons (pv 3) (pa_cons (pv 2) pa_nil))) (blkOk_by (N := N_places_of) (sc := defScope st_places_of) (by decide +kernel)) (fun _ _ _ _ _ => (k_gtup (K := K) rfl (pgs_cons (pg_name (i := 4) sc_places_of.nd rfl (.inl rfl)) (pgs_cons (pg_name (i := 5) sc_places_of.nd rfl (.inl rfl)) pgs_nil)))) (fun _ _ _ _ _ => pts_nil) (fun _ _ _ _ _ => (pe_op (k_catT (K := K)) (pv 4) (pe_tup (pa_cons (pv 5) pa_nil)))))))), fun ds r hR => by
    cases hR with
    | @mk ro tg r h =>
      exact .inl (show SD K E _ [.da (tupI ro), .da (.int r), .da (tupI tg), .un, .un, .un, .un] _ from (sd_seq (sd_set (ED.to (ed_catL (ed_lc_map  (it_tup (ed_var rfl)) (by have : LIM = 1000000 := rfl; omega) (fun x hx => ⟨_, (gd_name (by decide)), ((ed_tup (eda_cons ed_int (eda_cons (ed_var rfl) eda_nil)))).to (by exact (show _ = tupI [0, x] from rfl))⟩)) (ed_lst (eda_cons (ed_tup (eda_cons ed_int (eda_cons (ed_var rfl) eda_nil))) eda_nil)) (by have : LIM = 1000000 := rfl; rw [List.length_append, List.length_map]; simp; omega)) (by exact (show PyData.list _ = .list ((ro.map (fun h => [0, h]) ++ [[1, r]]).map tupI) by simp [tupI]))))
  (sd_ret (ED.to (ed_lc_map (f := fun p : List Int × Int => .tuple [tupI p.1, .int p.2]) (xs := (ro.map (fun h => [0, h]) ++ [[1, r]]).zip tg) (it_zipm (eda_cons (ed_var rfl) (eda_cons (ed_var rfl) eda_nil)) (by exact (show isSeqD _ = some (true, (ro.map (fun h => [0, h]) ++ [[1, r]]).map tupI) from rfl)) (by exact (show isSeqD _ = some (false, tg.map .int) from rfl))) (by have : LIM = 1000000 := rfl; rw [List.length_zip, List.length_append, List.length_map]; simp; omega) (fun x hx => ⟨_, (gd_tup (gd_cons (gd_name (by decide)) (gd_cons (gd_name (by decide)) gd_nil)) rfl), ((ed_catT (ed_var rfl) (ed_tup (eda_cons (ed_var rfl) eda_nil)) (by have := places_all2 hx; have : LIM = 1000000 := rfl; simp; omega))).to (by exact (show PyData.tuple _ = tupI (x.1 ++ [x.2]) by simp [tupI]))⟩)) (by simp [placesOf])))))⟩
def orderPlaces (o : Order) : List (List Int) := placesOf o.ro o.r o.tg
inductive R_order_places : List PyData → Res → Prop
  | mk {o : Order} : o.ro.length ≤ 1000 → R_order_places [orderD o] (.val (.list ((orderPlaces o).map tupI)))
theorem d_order_places (T : Txt K mg) (h_places_of : DefOk P w K mg base "places_of" ["route", "reader", "tags"] 1 R_places_of) : DefOk P w K mg base "order_places" ["order"] 2 R_order_places :=
  T.d_order_places.ok sc_order_places (by decide) (by intro ds r h; cases h <;> rfl) fun f cdv Ar outer s H E hr => ⟨_, (pss_one (ps_ret (pe_callD h_places_of (hr.mono (by decide)) (by rfl) passL (pa_cons (pe_ix (k_ixT (K := K)) (pv 0) pe_int (fun _ _ => rfl)) (pa_cons (pe_ix (k_ixT (K := K)) (pv 0) pe_int (fun _ _ => rfl)) (pa_cons (pe_ix (k_ixT (K := K)) (pv 0) pe_int (fun _ _ => rfl)) pa_nil)))))), fun ds r hR => by
    cases hR with
    | @mk o h =>
      exact .inl (show SD K E _ [.da (orderD o)] _ from (sd_ret (ED.to (ed_call (eda_cons (ed_ixT (ed_var rfl) ed_int rfl rfl) (eda_cons (ed_ixT (ed_var rfl) ed_int rfl rfl) (eda_cons (ed_ixT (ed_var rfl) ed_int rfl rfl) eda_nil))) (R_places_of.mk h)) (by rfl))))⟩
structure OrdersOk (N : Net) (os : List Order) : Prop where
  few : os.length ≤ 12
  ok : ∀ o ∈ os, OrderOk N o
  nd : (os.flatMap orderPlaces).Nodup
theorem OrderOk.rl {N : Net} {o : Order} (hN : NetOk N) (h : OrderOk N o) : o.ro.length ≤ 3 := by have := h.way.ro.len; have := hN.s3; omega
theorem places_few {N : Net} {o : Order} (hN : NetOk N) (h : OrderOk N o) : (orderPlaces o).length ≤ 4 := by
  have h1 := h.rl hN
  unfold orderPlaces placesOf
  rw [List.length_map, List.length_zip, List.length_append, List.length_map]
  simp; omega
theorem all_places_few {N : Net} {os : List Order} (hN : NetOk N) (h : OrdersOk N os) : (os.flatMap orderPlaces).length < 64 := by
  have := flat_len orderPlaces 4 os fun o ho => places_few hN (h.ok o ho)
  have := h.few
  omega
def ordersD (os : List Order) : PyData := .tuple (os.map orderD)
inductive R_are_orders : List PyData → Res → Prop
  | mk {N : Net} {os : List Order} : NetOk N → OrdersOk N os → R_are_orders [netD N, ordersD os] (.val (.bool true))
theorem d_are_orders (T : Txt K mg) (h_is_order : DefOk P w K mg base "is_order" ["net", "thing"] 5 R_is_order) (h_order_places : DefOk P w K mg base "order_places" ["order"] 2 R_order_places) (h_unlike : DefOk P w K mg base "unlike" ["things"] 1 R_unlike) : DefOk P w K mg base "are_orders" ["net", "thing"] 6 R_are_orders :=
  T.d_are_orders.ok sc_are_orders (by decide) (by intro ds r h; cases h <;> rfl) fun f cdv Ar outer s H E hr => ⟨_, (pss_cons (ps_if (PW.pt (pw_or (pt_not (pt_val (pe_callB (k_isi (K := K)) (by rfl) T.b_isinstance (by decide +kernel) (pa_cons (pv 1) (pa_cons (pe_bltn (v := .ty "tuple") (by rfl) T.b_tuple (by decide +kernel) rfl) pa_nil))))) (pw_or (pt_cmpR op_gt (pe_callB (k_len (K := K)) (by rfl) T.b_len PySem.boot_len (pa_cons (pv 1) pa_nil)) (pe_globI (by rfl) T.m_MOST_ORDERS) (nomark _)) (pw_or1 (pt_not (pt_val (pe_callB (k_all (K := K)) (by rfl) T.b_all (by decide +kernel) (pa_cons (pe_lc (own := [("order", 2)]) (g := (gName 2)) (tt := tYes) rfl sc_are_orders.nd (k_tup (K := K) (pv 1)) (blkOk_by (N := N_are_orders) (sc := defScope st_are_orders) (by decide +kernel)) (fun _ _ _ _ _ => (pg_name (i := 2) sc_are_orders.nd rfl (.inl rfl))) (fun _ _ _ _ _ => pts_nil) (fun _ _ _ _ _ => (pe_callD h_is_order (hr.mono (by decide)) (by rfl) passL (pa_cons (pv 0) (pa_cons (pv 2) pa_nil))))) pa_nil)))))))) (pss_one (ps_ret pe_bl)) pss_nil)
  (pss_one (ps_ret (pe_callD h_unlike (hr.mono (by decide)) (by rfl) passL (pa_cons (pe_lc2 (own := [("order", 2), ("place", 3)]) (vs1 := [3]) (g := (gName 2)) (g1 := (gName 3)) (tt := tYes) (tt1 := tYes) rfl sc_are_orders.nd (k_tup (K := K) (pv 1)) (blkOk_by (N := N_are_orders) (sc := defScope st_are_orders) (by decide +kernel)) (by decide) (fun _ _ _ _ _ => (pg_name (i := 2) sc_are_orders.nd rfl (.inl rfl))) (fun _ _ _ _ _ => pts_nil) (fun _ _ _ _ _ => (k_list (K := K) (pe_callD h_order_places (hr.mono (by decide)) (by rfl) passL (pa_cons (pv 2) pa_nil)))) (fun _ _ _ _ _ => (pg_name (i := 3) sc_are_orders.nd rfl (.inl rfl))) (fun _ _ _ _ _ => pts_nil) (fun _ _ _ _ _ => (pv 3))) pa_nil))))), fun ds r hR => by
    cases hR with
    | @mk N os hN h =>
      have hf := h.few
      have ha := all_places_few hN h
      have e3 : (os.flatMap fun o => (orderPlaces o).map tupI) = (os.flatMap orderPlaces).map tupI := by rw [List.map_flatMap]
      exact .inl (show SD K E _ [.da (netD N), .da (ordersD os), .un, .un] _ from (sd_ifs (b := false) (ET.to (et_or (et_not (et_val (ed_isi (by rfl) (ed_var rfl) (k_tuple _)))) (fun hb => (et_or (et_cmp (ed_gt (ed_cb (eda_cons (ed_var rfl) eda_nil) rc_lenT) ed_int)) (fun hb => (et_not (et_val (ed_cb (eda_cons (ed_lc_map  (it_tup (ed_var rfl)) (by exact lim4 (by omega)) (fun x hx => ⟨_, (gd_name (by decide)), ((ed_call (eda_cons (ed_var rfl) (eda_cons (ed_var rfl) eda_nil)) (R_is_order.mk hN (h.ok x hx)))).to (by rfl)⟩)) eda_nil) rc_allm))))))) (by rw [all_tt, List.length_map]; simp [ordersD, isTup]; omega)) (fun hb => Bool.noConfusion hb) (fun hb => (sd_nexts (sd_ret (ED.to (ed_call (eda_cons (ED.to (ed_lc2_map (f := orderD) (sub := fun o => (orderPlaces o).map tupI) (it_tup (ed_var rfl)) (by rw [e3, List.length_map]; have : LIM = 1000000 := rfl; omega) (fun x hx => ⟨_, (gd_name (by decide)), (inner_map (it_list (ed_call (eda_cons (ed_var rfl) eda_nil) (R_order_places.mk (by have := (h.ok x hx).rl hN; omega)))) (fun y hy => ⟨_, (gd_name (by decide)), ((ed_var rfl)).to (by rfl)⟩))⟩)) (by exact (show PyData.list (os.flatMap fun o => (orderPlaces o).map tupI) = .list ((os.flatMap orderPlaces).map tupI) by rw [e3]))) eda_nil) (R_unlike.mk ha)) (by simp [h.nd])))))))⟩
inductive R_need_orders : List PyData → Res → Prop
  | mk {N : Net} {os : List Order} : NetOk N → OrdersOk N os → R_need_orders [netD N, ordersD os] (.val .none)
theorem d_need_orders (T : Txt K mg) (h_are_orders : DefOk P w K mg base "are_orders" ["net", "thing"] 6 R_are_orders) (h_need_net : DefOk P w K mg base "need_net" ["thing"] 7 R_need_net) : DefOk P w K mg base "need_orders" ["net", "orders"] 8 R_need_orders :=
  T.d_need_orders.ok sc_need_orders (by decide) (by intro ds r h; cases h <;> rfl) fun f cdv Ar outer s H E hr => ⟨_, (pss_cons (ps_expr (pe_callD h_need_net (hr.mono (by decide)) (by rfl) passC (pa_cons (pv 0) pa_nil)))
  (pss_one (ps_if (pt_not (pt_val (pe_callD h_are_orders (hr.mono (by decide)) (by rfl) passL (pa_cons (pv 0) (pa_cons (pv 1) pa_nil))))) (pss_one (ps_raiseD T.x_NoOrder rfl (takes_of rfl rfl rfl rfl) (by rfl))) pss_nil))), fun ds r hR => by
    cases hR with
    | @mk N os hN h =>
      exact .inr ⟨rfl, _, (show SD K E _ [.da (netD N), .da (ordersD os)] _ from (sd_seq (sd_drop (ed_call (eda_cons (ed_var rfl) eda_nil) (R_need_net.mk hN)))
  (sd_if (b := false) (ET.to (et_not (et_val (ed_call (eda_cons (ed_var rfl) (eda_cons (ed_var rfl) eda_nil)) (R_are_orders.mk hN h)))) (by rfl)) (fun hb => Bool.noConfusion hb) (fun hb => sd_next))))⟩⟩
inductive PlaceOk (N : Net) : List Int → Prop
  | host {h t} : 0 ≤ h → h < hostCount N → 0 ≤ t → t < 9409 → PlaceOk N [0, h, t]
  | person {h t} : 0 ≤ h → h < N.n → 0 ≤ t → t < 9409 → PlaceOk N [1, h, t]
inductive R_is_place : List PyData → Res → Prop
  | h {N : Net} {h t : Int} : NetOk N → (0 ≤ h ∧ h < hostCount N) → (0 ≤ t ∧ t < 9409) → R_is_place [netD N, tupI [0, h, t]] (.val (.bool true))
  | p {N : Net} {h t : Int} : NetOk N → (0 ≤ h ∧ h < N.n) → (0 ≤ t ∧ t < 9409) → R_is_place [netD N, tupI [1, h, t]] (.val (.bool true))
theorem R_is_place.mk {N : Net} {p : List Int} (hN : NetOk N) (h : PlaceOk N p) : R_is_place [netD N, tupI p] (.val (.bool true)) := by
  cases h with
  | host a b c d => exact .h hN ⟨a, b⟩ ⟨c, d⟩
  | person a b c d => exact .p hN ⟨a, b⟩ ⟨c, d⟩
theorem d_is_place (T : Txt K mg) (h_host_count : DefOk P w K mg base "host_count" ["net"] 1 R_host_count) (h_is_between : DefOk P w K mg base "is_between" ["thing", "least", "most"] 2 R_is_between) (h_is_tag : DefOk P w K mg base "is_tag" ["thing"] 3 R_is_tag) (h_is_tuple_of : DefOk P w K mg base "is_tuple_of" ["thing", "many"] 1 R_is_tuple_of) (h_is_under : DefOk P w K mg base "is_under" ["thing", "many"] 2 R_is_under) : DefOk P w K mg base "is_place" ["net", "thing"] 4 R_is_place :=
  T.d_is_place.ok sc_is_place (by decide) (by intro ds r h; cases h <;> rfl) fun f cdv Ar outer s H E hr => ⟨_, (pss_cons (ps_if (PW.pt (pw_or (pt_not (pt_val (pe_callD h_is_tuple_of (hr.mono (by decide)) (by rfl) passL (pa_cons (pv 1) (pa_cons pe_int pa_nil))))) (pw_or (pt_not (pt_val (pe_callD h_is_between (hr.mono (by decide)) (by rfl) passL (pa_cons (pe_ix (k_ixT (K := K)) (pv 1) pe_int (fun _ _ => rfl)) (pa_cons pe_int (pa_cons pe_int pa_nil)))))) (pw_or1 (pt_not (pt_val (pe_callD h_is_tag (hr.mono (by decide)) (by rfl) passL (pa_cons (pe_ix (k_ixT (K := K)) (pv 1) pe_int (fun _ _ => rfl)) pa_nil)))))))) (pss_one (ps_ret pe_bl)) pss_nil)
  (pss_one (ps_ret (pe_callD h_is_under (hr.mono (by decide)) (by rfl) passL (pa_cons (pe_ix (k_ixT (K := K)) (pv 1) pe_int (fun _ _ => rfl)) (pa_cons (pe_ifExp (pt_cmpR op_eq (pe_ix (k_ixT (K := K)) (pv 1) pe_int (fun _ _ => rfl)) (pe_globI (by rfl) T.m_HOST) (nomark _)) (pe_callD h_host_count (hr.mono (by decide)) (by rfl) passL (pa_cons (pv 0) pa_nil)) (pe_ix (k_ixT (K := K)) (pv 0) pe_int (fun _ _ => rfl))) pa_nil)))))), fun ds r hR => by
    cases hR with
    | @h N h t hN h1 h2 =>
      exact .inl (show SD K E _ [.da (netD N), .da (tupI [0, h, t])] _ from (sd_ifs (b := false) (ET.to (et_or (et_not (et_val (ed_call (eda_cons (ed_var rfl) (eda_cons ed_int eda_nil)) R_is_tuple_of.mk))) (fun hb => (et_or (et_not (et_val (ed_call (eda_cons (ed_ixT (ed_var rfl) ed_int rfl rfl) (eda_cons ed_int (eda_cons ed_int eda_nil))) (R_is_between.mk)))) (fun hb => (et_not (et_val (ed_call (eda_cons (ed_ixT (ed_var rfl) ed_int rfl rfl) eda_nil) (R_is_tag.mk)))))))) (by simp; exact h2)) (fun hb => Bool.noConfusion hb) (fun hb => (sd_nexts (sd_ret (ED.to (ed_call (eda_cons (ed_ixT (ed_var rfl) ed_int rfl rfl) (eda_cons (ed_if (d := .int (hostCount N)) (et_cmp (ed_eqI (ed_ixT (ed_var rfl) ed_int rfl rfl) ed_int)) (fun hb => ((ed_call (eda_cons (ed_var rfl) eda_nil) (R_host_count.mk hN))).to (by rfl)) (fun hb => ((ed_ixT (ed_var rfl) ed_int rfl rfl)).to (by exact absurd hb (by decide)))) eda_nil)) (R_is_under.mk)) (by simp; exact h1)))))))
    | @p N h t hN h1 h2 =>
      exact .inl (show SD K E _ [.da (netD N), .da (tupI [1, h, t])] _ from (sd_ifs (b := false) (ET.to (et_or (et_not (et_val (ed_call (eda_cons (ed_var rfl) (eda_cons ed_int eda_nil)) R_is_tuple_of.mk))) (fun hb => (et_or (et_not (et_val (ed_call (eda_cons (ed_ixT (ed_var rfl) ed_int rfl rfl) (eda_cons ed_int (eda_cons ed_int eda_nil))) (R_is_between.mk)))) (fun hb => (et_not (et_val (ed_call (eda_cons (ed_ixT (ed_var rfl) ed_int rfl rfl) eda_nil) (R_is_tag.mk)))))))) (by simp; exact h2)) (fun hb => Bool.noConfusion hb) (fun hb => (sd_nexts (sd_ret (ED.to (ed_call (eda_cons (ed_ixT (ed_var rfl) ed_int rfl rfl) (eda_cons (ed_if (d := .int N.n) (et_cmp (ed_eqI (ed_ixT (ed_var rfl) ed_int rfl rfl) ed_int)) (fun hb => ((ed_call (eda_cons (ed_var rfl) eda_nil) (R_host_count.mk hN))).to (by exact absurd hb (by decide))) (fun hb => ((ed_ixT (ed_var rfl) ed_int rfl rfl)).to (by rfl))) eda_nil)) (R_is_under.mk)) (by simp; exact h1)))))))⟩
/-- secrets: places and their pads -/
abbrev Sec := List (List Int × List Int)
def secK (s : Sec) : List (List Key × PyData) := s.map fun p => (p.1.map Sum.inl, tupI p.2)
def secD (s : Sec) : PyData := dtD (secK s)
theorem tkD_tupI (p : List Int) : tkD (p.map Sum.inl) = tupI p := by
  unfold tkD tupI
  rw [List.map_map]; rfl
structure SecOk (N : Net) (s : Sec) : Prop where
  few : s.length ≤ 100
  pl : ∀ p ∈ s, PlaceOk N p.1
  ln : ∀ p ∈ s, (p.2.length : Int) = longOf N + 3
  un : ∀ p ∈ s, allUnder p.2 97 = true
theorem long_in {N : Net} (h : NetOk N) : 4 ≤ longOf N ∧ longOf N ≤ 25 := by
  have := h.s1; have := h.s3; have := h.w1; have := h.w16
  unfold longOf; omega
theorem sec_mem {s : Sec} {x : List Key × PyData} (h : x ∈ secK s) : ∃ p ∈ s, x = (p.1.map Sum.inl, tupI p.2) := by
  obtain ⟨p, hp, e⟩ := List.mem_map.mp h
  exact ⟨p, hp, e.symm⟩
theorem place_len {N : Net} {p : List Int} (h : PlaceOk N p) : p.length = 3 := by cases h <;> rfl
inductive R_is_secrets : List PyData → Res → Prop
  | mk {N : Net} {s : Sec} : NetOk N → SecOk N s → R_is_secrets [netD N, secD s] (.val (.bool true))
theorem d_is_secrets (T : Txt K mg) (h_is_place : DefOk P w K mg base "is_place" ["net", "thing"] 4 R_is_place) (h_is_row : DefOk P w K mg base "is_row" ["many", "thing"] 3 R_is_row) (h_long_of : DefOk P w K mg base "long_of" ["net"] 1 R_long_of) : DefOk P w K mg base "is_secrets" ["net", "thing"] 5 R_is_secrets :=
  T.d_is_secrets.ok sc_is_secrets (by decide) (by intro ds r h; cases h <;> rfl) fun f cdv Ar outer s H E hr => ⟨_, (pss_cons (ps_if (PW.pt (pw_or (pt_not (pt_val (pe_callB (k_isD (K := K)) (by rfl) T.b_isinstance (by decide +kernel) (pa_cons (pv 1) (pa_cons (pe_bltn (v := .ty "dict") (by rfl) T.b_dict (by decide +kernel) rfl) pa_nil))))) (pw_or1 (pt_not (pt_val (pe_callB (k_all (K := K)) (by rfl) T.b_all (by decide +kernel) (pa_cons (pe_lc (own := [("place", 3)]) (g := (gName 3)) (tt := tYes) rfl sc_is_secrets.nd (pi_keys (pv 1)) (blkOk_by (N := N_is_secrets) (sc := defScope st_is_secrets) (by decide +kernel)) (fun _ _ _ _ _ => (pg_name (i := 3) sc_is_secrets.nd rfl (.inl rfl))) (fun _ _ _ _ _ => pts_nil) (fun _ _ _ _ _ => (pe_callD h_is_place (hr.mono (by decide)) (by rfl) passL (pa_cons (pv 0) (pa_cons (pv 3) pa_nil))))) pa_nil))))))) (pss_one (ps_ret pe_bl)) pss_nil)
  (pss_one (ps_ret (pe_callB (k_all (K := K)) (by rfl) T.b_all (by decide +kernel) (pa_cons (pe_lc (own := [("pad", 2)]) (g := (gName 2)) (tt := tYes) rfl sc_is_secrets.nd (pi_valuesT (pv 1)) (blkOk_by (N := N_is_secrets) (sc := defScope st_is_secrets) (by decide +kernel)) (fun _ _ _ _ _ => (pg_name (i := 2) sc_is_secrets.nd rfl (.inl rfl))) (fun _ _ _ _ _ => pts_nil) (fun _ _ _ _ _ => (pe_callD h_is_row (hr.mono (by decide)) (by rfl) passL (pa_cons (pe_op op_add (pe_callD h_long_of (hr.mono (by decide)) (by rfl) passL (pa_cons (pv 0) pa_nil)) (pe_globI (by rfl) T.m_HEAD)) (pa_cons (pv 2) pa_nil))))) pa_nil))))), fun ds r hR => by
    cases hR with
    | @mk N s hN h =>
      have hf := h.few
      have hl := long_in hN
      have e4 : (secK s).map (·.2) = s.map fun p => tupI p.2 := by unfold secK; rw [List.map_map]; rfl
      have e5 : (secK s).length = s.length := List.length_map _
      exact .inl (show SD K E _ [.da (netD N), .da (secD s), .un, .un] _ from (sd_ifs (b := false) (ET.to (et_or (et_not (et_val (ed_isDT (ed_var rfl) rfl))) (fun hb => (et_not (et_val (ed_cb (eda_cons (ed_lc_map (f := fun x : List Key × PyData => tkD x.1) (xs := secK s) (h := fun _ => .bool true) (it_keysT (ed_var rfl) (by intro k hk; obtain ⟨x, hx, rfl⟩ := List.mem_map.mp hk; obtain ⟨p, hp, rfl⟩ := sec_mem hx; have := place_len (h.pl p hp); have : LIM = 1000000 := rfl; simp; omega)) (by have : LIM = 1000000 := rfl; omega) (fun x hx => ⟨_, (gd_name (by decide)), ((ed_call (eda_cons (ed_var rfl) (eda_cons (ed_var rfl) eda_nil)) (by obtain ⟨p, hp, rfl⟩ := sec_mem hx; rw [tkD_tupI]; exact R_is_place.mk hN (h.pl p hp)))).to (by rfl)⟩)) eda_nil) rc_allm))))) (by rw [all_tt]; rfl)) (fun hb => Bool.noConfusion hb) (fun hb => (sd_nexts (sd_ret (ED.to (ed_cb (eda_cons (ed_lc_map (f := fun x : List Key × PyData => x.2) (xs := secK s) (h := fun _ => .bool true) (it_valsT (ed_var rfl)) (by have : LIM = 1000000 := rfl; omega) (fun x hx => ⟨_, (gd_name (by decide)), ((ed_call (eda_cons (ed_add (ed_call (eda_cons (ed_var rfl) eda_nil) R_long_of.mk) ed_int) (eda_cons (ed_var rfl) eda_nil)) (by obtain ⟨p, hp, rfl⟩ := sec_mem hx; have hr := R_is_row.mk (n := longOf N + 3) (xs := p.2) (by have := h.ln p hp; have : LIM = 1000000 := rfl; omega); rw [h.un p hp, decide_eq_true (h.ln p hp)] at hr; exact hr))).to (by rfl)⟩)) eda_nil) rc_allm) (by rw [all_tt])))))))⟩
inductive R_need_secrets : List PyData → Res → Prop
  | mk {N : Net} {s : Sec} : NetOk N → SecOk N s → R_need_secrets [netD N, secD s] (.val .none)
theorem d_need_secrets (T : Txt K mg) (h_is_secrets : DefOk P w K mg base "is_secrets" ["net", "thing"] 5 R_is_secrets) (h_need_net : DefOk P w K mg base "need_net" ["thing"] 7 R_need_net) : DefOk P w K mg base "need_secrets" ["net", "secrets"] 8 R_need_secrets :=
  T.d_need_secrets.ok sc_need_secrets (by decide) (by intro ds r h; cases h <;> rfl) fun f cdv Ar outer s H E hr => ⟨_, (pss_cons (ps_expr (pe_callD h_need_net (hr.mono (by decide)) (by rfl) passC (pa_cons (pv 0) pa_nil)))
  (pss_one (ps_if (pt_not (pt_val (pe_callD h_is_secrets (hr.mono (by decide)) (by rfl) passL (pa_cons (pv 0) (pa_cons (pv 1) pa_nil))))) (pss_one (ps_raiseD T.x_NoSecrets rfl (takes_of rfl rfl rfl rfl) (by rfl))) pss_nil))), fun ds r hR => by
    cases hR with
    | @mk N s hN h =>
      exact .inr ⟨rfl, _, (show SD K E _ [.da (netD N), .da (secD s)] _ from (sd_seq (sd_drop (ed_call (eda_cons (ed_var rfl) eda_nil) (R_need_net.mk hN)))
  (sd_if (b := false) (ET.to (et_not (et_val (ed_call (eda_cons (ed_var rfl) (eda_cons (ed_var rfl) eda_nil)) (R_is_secrets.mk hN h)))) (by rfl)) (fun hb => Bool.noConfusion hb) (fun hb => sd_next))))⟩⟩
structure ReadyOk (N : Net) (s : Sec) (os : List Order) : Prop where
  sec : SecOk N s
  ord : OrdersOk N os
  all : ∀ o ∈ os, ∀ p ∈ orderPlaces o, p ∈ s.map (·.1)
theorem find_sec {s : Sec} {p : List Int} (h : p ∈ s.map (·.1)) : (findD (secK s) (p.map Sum.inl)).isSome = true := by
  induction s with
  | nil => simp at h
  | cons q s ih =>
    unfold findD secK
    rw [List.map_cons, List.find?_cons]
    by_cases e : q.1.map (Sum.inl : Int → Key) = p.map Sum.inl
    · rw [decide_eq_true e]; rfl
    · rw [decide_eq_false e]
      have h' : p ∈ s.map (·.1) := by
        rcases List.mem_cons.mp (by simpa using h : p ∈ q.1 :: s.map (·.1)) with r | r
        · exact absurd (by rw [r]) e
        · exact r
      exact ih h'
theorem find_none {s : Sec} {p : List Int} (h : ¬ p ∈ s.map (·.1)) : (findD (secK s) (p.map Sum.inl)).isSome = false := by
  induction s with
  | nil => rfl
  | cons q s ih =>
    unfold findD secK
    rw [List.map_cons, List.find?_cons]
    have e : ¬ q.1.map (Sum.inl : Int → Key) = p.map Sum.inl := fun z => h (by rw [← (List.map_inj_right (fun x y h => Sum.inl.inj h)).mp z]; simp)
    rw [decide_eq_false e]
    exact ih fun z => h (by rw [List.map_cons]; exact List.mem_cons_of_mem _ z)
theorem inl_inj {a b : List Int} (h : a.map (Sum.inl : Int → Key) = b.map Sum.inl) : a = b := (List.map_inj_right (fun x y h => Sum.inl.inj h)).mp h
inductive R_need_ready : List PyData → Res → Prop
  | mk {N : Net} {s : Sec} {os : List Order} : NetOk N → ReadyOk N s os → R_need_ready [netD N, secD s, ordersD os] (.val .none)
theorem tt_flat {α β : Type} (f : α → List β) (xs : List α) : (xs.flatMap fun x => (f x).map fun _ => PyData.bool true) = ((xs.flatMap f).map fun _ => PyData.bool true) := by rw [List.map_flatMap]
theorem d_need_ready (T : Txt K mg) (h_need_orders : DefOk P w K mg base "need_orders" ["net", "orders"] 8 R_need_orders) (h_need_secrets : DefOk P w K mg base "need_secrets" ["net", "secrets"] 8 R_need_secrets) (h_order_places : DefOk P w K mg base "order_places" ["order"] 2 R_order_places) : DefOk P w K mg base "need_ready" ["net", "secrets", "orders"] 9 R_need_ready :=
  T.d_need_ready.ok sc_need_ready (by decide) (by intro ds r h; cases h <;> rfl) fun f cdv Ar outer s H E hr => ⟨_, (pss_cons (ps_expr (pe_callD h_need_secrets (hr.mono (by decide)) (by rfl) passC (pa_cons (pv 0) (pa_cons (pv 1) pa_nil))))
  (pss_cons (ps_expr (pe_callD h_need_orders (hr.mono (by decide)) (by rfl) passC (pa_cons (pv 0) (pa_cons (pv 2) pa_nil))))
  (pss_one (ps_if (pt_not (pt_val (pe_callB (k_all (K := K)) (by rfl) T.b_all (by decide +kernel) (pa_cons (pe_lc2 (own := [("order", 3), ("place", 4)]) (vs1 := [4]) (g := (gName 3)) (g1 := (gName 4)) (tt := tYes) (tt1 := tYes) rfl sc_need_ready.nd (k_tup (K := K) (pv 2)) (blkOk_by (N := N_need_ready) (sc := defScope st_need_ready) (by decide +kernel)) (by decide) (fun _ _ _ _ _ => (pg_name (i := 3) sc_need_ready.nd rfl (.inl rfl))) (fun _ _ _ _ _ => pts_nil) (fun _ _ _ _ _ => (k_list (K := K) (pe_callD h_order_places (hr.mono (by decide)) (by rfl) passL (pa_cons (pv 3) pa_nil)))) (fun _ _ _ _ _ => (pg_name (i := 4) sc_need_ready.nd rfl (.inl rfl))) (fun _ _ _ _ _ => pts_nil) (fun _ _ _ _ _ => (pe_cmp (pc_din (hu_of hr) (pv 4) (pv 1))))) pa_nil)))) (pss_one (ps_raiseD T.x_NoOrder rfl (takes_of rfl rfl rfl rfl) (by rfl))) pss_nil)))), fun ds r hR => by
    cases hR with
    | @mk N s os hN h =>
      have ha := all_places_few hN h.ord
      exact .inr ⟨rfl, _, (show SD K E _ [.da (netD N), .da (secD s), .da (ordersD os), .un, .un] _ from (sd_seq (sd_drop (ed_call (eda_cons (ed_var rfl) (eda_cons (ed_var rfl) eda_nil)) (R_need_secrets.mk hN h.sec)))
  (sd_seq (sd_drop (ed_call (eda_cons (ed_var rfl) (eda_cons (ed_var rfl) eda_nil)) (R_need_orders.mk hN h.ord)))
  (sd_if (b := false) (ET.to (et_not (et_val (ed_cb (eda_cons (ED.to (ed_lc2_map (f := orderD) (sub := fun o => (orderPlaces o).map fun _ => PyData.bool true) (it_tup (ed_var rfl)) (by rw [tt_flat, List.length_map]; have : LIM = 1000000 := rfl; omega) (fun x hx => ⟨_, (gd_name (by decide)), (inner_map (it_list (ed_call (eda_cons (ed_var rfl) eda_nil) (R_order_places.mk (by have := (h.ord.ok x hx).rl hN; omega)))) (fun y hy => ⟨_, (gd_name (by decide)), ((ed_dinT (ed_var rfl) (ED.to (ed_var rfl) (show _ = (tkD (y.map Sum.inl)) from (tkD_tupI y).symm)))).to (by rw [find_sec (h.all x hx y hy)])⟩))⟩)) (by exact (show PyData.list _ = .list ((os.flatMap orderPlaces).map fun _ => PyData.bool true) by rw [tt_flat]))) eda_nil) rc_allm))) (by rw [all_tt]; rfl)) (fun hb => Bool.noConfusion hb) (fun hb => sd_next)))))⟩⟩
def placeNo (seed : Int) (p : List Int) : Int := ((seed * 2 + p.getD 0 0) * 16 + p.getD 1 0) * 10000 + p.getD 2 0
def padAt (N : Net) (seed : Int) (p : List Int) : List Int × List Int := (p, grownL (placeNo seed p) (longOf N + 3).toNat)
def madeSec (N : Net) (seed : Int) (ps : List (List Int)) : Sec := ps.map (padAt N seed)
inductive R_made_secrets : List PyData → Res → Prop
  | mk {N : Net} {os : List Order} {seed : Int} : NetOk N → OrdersOk N os → (0 ≤ seed ∧ seed ≤ 1000000) → R_made_secrets [netD N, ordersD os, .int seed] (.val (secD (madeSec N seed (os.flatMap orderPlaces))))
theorem fold_app {α β : Type} (f : α → List β) : ∀ (l : List α) (acc : List β), l.foldl (fun a x => a ++ f x) acc = acc ++ l.flatMap f
  | [], acc => by simp
  | x :: l, acc => by rw [List.foldl_cons, fold_app f l]; simp
theorem fold_one {α : Type} : ∀ (l acc : List α), l.foldl (fun a x => a ++ [x]) acc = acc ++ l
  | [], acc => by simp
  | x :: l, acc => by rw [List.foldl_cons, fold_one l]; simp
theorem place3 {o : Order} {p : List Int} (h : p ∈ orderPlaces o) : p.length = 3 := by
  unfold orderPlaces placesOf at h
  obtain ⟨x, hx, rfl⟩ := List.mem_map.mp h
  rw [List.length_append, places_all2 hx]; rfl
theorem sec_len {N : Net} {seed : Int} {ps : List (List Int)} : (secK (madeSec N seed ps)).length = ps.length := by simp [secK, madeSec]
theorem made_pos {os pre post : List Order} {x : Order} {pre1 post1 : List (List Int)} {x1 : List Int} (hx : os = pre ++ x :: post) (hx1 : orderPlaces x = pre1 ++ x1 :: post1) (nd : (os.flatMap orderPlaces).Nodup) :
    x1 ∉ pre1.foldl (fun a p => a ++ [p]) (pre.foldl (fun a o => a ++ orderPlaces o) []) ∧ (pre1.foldl (fun a p => a ++ [p]) (pre.foldl (fun a o => a ++ orderPlaces o) [])).length + 1 ≤ (os.flatMap orderPlaces).length := by
  rw [fold_one, fold_app, List.nil_append]
  rw [hx, List.flatMap_append, List.flatMap_cons, hx1] at nd ⊢
  have e : pre.flatMap orderPlaces ++ ((pre1 ++ x1 :: post1) ++ post.flatMap orderPlaces) = (pre.flatMap orderPlaces ++ pre1) ++ (x1 :: (post1 ++ post.flatMap orderPlaces)) := by simp
  rw [e] at nd ⊢
  refine ⟨fun h => ?_, by simp; omega⟩
  exact (List.nodup_append.mp nd).2.2 x1 h x1 List.mem_cons_self rfl
theorem put_new {N : Net} {seed : Int} {ps : List (List Int)} {p : List Int} (h : p ∉ ps) : putD (secK (madeSec N seed ps)) (p.map Sum.inl) (tupI (padAt N seed p).2) = secK (madeSec N seed (ps ++ [p])) := by
  rw [putD_new]
  · simp [secK, madeSec, padAt]
  · intro hm
    obtain ⟨x, hx, e⟩ := List.mem_map.mp hm
    obtain ⟨q, hq, rfl⟩ := sec_mem hx
    obtain ⟨r, hr, rfl⟩ := List.mem_map.mp hq
    have := inl_inj e
    exact h (by rw [← this]; exact hr)
theorem d_made_secrets (T : Txt K mg) (h_grown : DefOk P w K mg base "grown" ["seed", "many"] 1 R_grown) (h_is_between : DefOk P w K mg base "is_between" ["thing", "least", "most"] 2 R_is_between) (h_long_of : DefOk P w K mg base "long_of" ["net"] 1 R_long_of) (h_need_orders : DefOk P w K mg base "need_orders" ["net", "orders"] 8 R_need_orders) (h_order_places : DefOk P w K mg base "order_places" ["order"] 2 R_order_places) : DefOk P w K mg base "made_secrets" ["net", "orders", "seed"] 9 R_made_secrets :=
  T.d_made_secrets.ok sc_made_secrets (by decide) (by intro ds r h; cases h <;> rfl) fun f cdv Ar outer s H E hr => ⟨_, (pss_cons (ps_expr (pe_callD h_need_orders (hr.mono (by decide)) (by rfl) passC (pa_cons (pv 0) (pa_cons (pv 1) pa_nil))))
  (pss_cons (ps_if (pt_not (pt_val (pe_callD h_is_between (hr.mono (by decide)) (by rfl) passL (pa_cons (pv 2) (pa_cons pe_int (pa_cons pe_int pa_nil)))))) (pss_one (ps_raiseD T.x_NoSecrets rfl (takes_of rfl rfl rfl rfl) (by rfl))) pss_nil)
  (pss_cons (ps_set (i := 3) sc_made_secrets.nd rfl (.inl rfl) pe_dnewT)
  (pss_cons (ps_for PW0 rfl (k_tup (K := K) (pv 1)) (pg_name (i := 4) sc_made_secrets.nd rfl (.inl rfl)) (pss_one (ps_for PW0 rfl (k_list (K := K) (pe_callD h_order_places (hr.mono (by decide)) (by rfl) passL (pa_cons (pv 4) pa_nil))) (pg_name (i := 5) sc_made_secrets.nd rfl (.inl rfl)) (pss_cons (ps_set (i := 6) sc_made_secrets.nd rfl (.inl rfl) (pe_op op_add (pe_op op_mul (pe_op op_add (pe_op op_mul (pe_op op_add (pe_op op_mul (pv 2) pe_int) (pe_ix (k_ixT (K := K)) (pv 5) pe_int (fun _ _ => rfl))) pe_int) (pe_ix (k_ixT (K := K)) (pv 5) pe_int (fun _ _ => rfl))) pe_int) (pe_ix (k_ixT (K := K)) (pv 5) pe_int (fun _ _ => rfl))))
  (pss_one (ps_dput (hu_of hr) (pv 3) (pv 5) (pe_callD h_grown (hr.mono (by decide)) (by rfl) passL (pa_cons (pv 6) (pa_cons (pe_op op_add (pe_callD h_long_of (hr.mono (by decide)) (by rfl) passL (pa_cons (pv 0) pa_nil)) (pe_globI (by rfl) T.m_HEAD)) pa_nil))) rfl))))))
  (pss_one (ps_frz (ps_ret (pv 3)))))))), fun ds r hR => by
    cases hR with
    | @mk N os seed hN h hs =>
      have ha := all_places_few hN h
      have hl := long_in hN
      exact .inl (show SD K E _ [.da (netD N), .da (ordersD os), .da (.int seed), .un, .un, .un, .un] _ from (sd_seq (sd_drop (ed_call (eda_cons (ed_var rfl) (eda_cons (ed_var rfl) eda_nil)) (R_need_orders.mk hN h)))
  (sd_ifs (b := false) (ET.to (et_not (et_val (ed_call (eda_cons (ed_var rfl) (eda_cons ed_int (eda_cons ed_int eda_nil))) R_is_between.mk))) (by simp; exact hs)) (fun hb => Bool.noConfusion hb) (fun hb => (sd_nexts (sd_seq sd_newT
  (sd_seq (sd_for (S := fun ps : List (List Int) => [.da (netD N), .da (ordersD os), .da (.int seed), .ow (mtA K (secK (madeSec N seed ps))), .un, .un, .un]) (step := fun a o => a ++ orderPlaces o) (b0 := []) (f := orderD) (xs := os) (it_tup (ed_var rfl)) (by walk_at "le") (fun pre post x hx => ⟨_, gs_name, .inl (SD.weak (sd_for (S := fun ps : List (List Int) => [.da (netD N), .da (ordersD os), .da (.int seed), .ow (mtA K (secK (madeSec N seed ps))), .da (orderD x), .un, .un]) (step := fun a p => a ++ [p]) (b0 := pre.foldl (fun a o => a ++ orderPlaces o) []) (f := tupI) (xs := orderPlaces x) (it_list (ed_call (eda_cons (ed_var rfl) eda_nil) (R_order_places.mk (by have := (h.ok x (by rw [hx]; simp)).rl hN; omega)))) (by walk_at "le") (fun pre1 post1 x1 hx1 => ⟨_, gs_name, .inl (sd_seq (sd_set (ed_add (ed_mul (ed_add (ed_mul (ed_add (ed_mul (ed_var rfl) ed_int (by exact .inr (by decide))) (ed_ixTi (ed_var rfl) ed_int (by decide) (by (have := place3 (o := x) (p := x1) (by rw [hx1]; simp); omega)))) ed_int (by exact .inr (by decide))) (ed_ixTi (ed_var rfl) ed_int (by decide) (by (have := place3 (o := x) (p := x1) (by rw [hx1]; simp); omega)))) ed_int (by exact .inr (by decide))) (ed_ixTi (ed_var rfl) ed_int (by decide) (by (have := place3 (o := x) (p := x1) (by rw [hx1]; simp); omega)))))
  (SD.weak (sd_dputT rfl (ed_call (eda_cons (ed_var rfl) (eda_cons (ed_add (ed_call (eda_cons (ed_var rfl) eda_nil) R_long_of.mk) ed_int) eda_nil)) (R_grown.mk (by omega) (by omega))) (ED.to (ed_var rfl) (show _ = (tkD (x1.map Sum.inl)) from (tkD_tupI x1).symm)) (by have := (made_pos hx hx1 h.nd).2; rw [sec_len]; have : LIM = 1000000 := rfl; omega)) (by rw [← put_new (made_pos hx hx1 h.nd).1]; walk_at "le")))⟩)) (by rw [fold_one]; walk_at "le"))⟩))
  (sd_frzT 3 rfl (sd_ret (ED.to (ed_var rfl) (by rw [fold_app, List.nil_append]; rfl)))))))))))⟩
structure Text where
  tag : Int
  body : List Int
def textD (x : Text) : PyData := .tuple [.int x.tag, tupI x.body]
structure TextOk (N : Net) (x : Text) : Prop where
  t0 : 0 ≤ x.tag
  t1 : x.tag < 9409
  ln : (x.body.length : Int) = longOf N
  un : allUnder x.body 97 = true
inductive R_is_text : List PyData → Res → Prop
  | mk {N : Net} {x : Text} : NetOk N → TextOk N x → R_is_text [netD N, textD x] (.val (.bool true))
theorem d_is_text (T : Txt K mg) (h_is_row : DefOk P w K mg base "is_row" ["many", "thing"] 3 R_is_row) (h_is_tag : DefOk P w K mg base "is_tag" ["thing"] 3 R_is_tag) (h_is_tuple_of : DefOk P w K mg base "is_tuple_of" ["thing", "many"] 1 R_is_tuple_of) (h_long_of : DefOk P w K mg base "long_of" ["net"] 1 R_long_of) : DefOk P w K mg base "is_text" ["net", "thing"] 4 R_is_text :=
  T.d_is_text.ok sc_is_text (by decide) (by intro ds r h; cases h <;> rfl) fun f cdv Ar outer s H E hr => ⟨_, (pss_one (ps_ret (pe_and (pe_callD h_is_tuple_of (hr.mono (by decide)) (by rfl) passL (pa_cons (pv 1) (pa_cons pe_int pa_nil))) (pe_and (pe_callD h_is_tag (hr.mono (by decide)) (by rfl) passL (pa_cons (pe_ix (k_ixT (K := K)) (pv 1) pe_int (fun _ _ => rfl)) pa_nil)) (pe_one (pe_callD h_is_row (hr.mono (by decide)) (by rfl) passL (pa_cons (pe_callD h_long_of (hr.mono (by decide)) (by rfl) passL (pa_cons (pv 0) pa_nil)) (pa_cons (pe_ix (k_ixT (K := K)) (pv 1) pe_int (fun _ _ => rfl)) pa_nil)))))))), fun ds r hR => by
    cases hR with
    | @mk N x hN h =>
      have hl := long_in hN
      have hbl := h.ln
      have h0 := h.t0
      have h1 := h.t1
      have h2 := h.un
      exact .inl (show SD K E _ [.da (netD N), .da (textD x)] _ from (sd_ret (ED.to (ed_and (ed_call (eda_cons (ed_var rfl) (eda_cons ed_int eda_nil)) R_is_tuple_of.mk) (fun hb => (ed_and (ed_call (eda_cons (ed_ixT (ed_var rfl) ed_int rfl rfl) eda_nil) R_is_tag.mk) (fun hb => (ed_call (eda_cons (ed_call (eda_cons (ed_var rfl) eda_nil) R_long_of.mk) (eda_cons (ed_ixT (ed_var rfl) ed_int rfl rfl) eda_nil)) (R_is_row.mk (by have : LIM = 1000000 := rfl; omega))))))) (by simp [h2, hbl, h0, h1]))))⟩
def headsOf (o : Order) : List (List Int) := ((o.ro.drop 1 ++ [o.r]).zip (o.tg.drop 1)).map fun p => [p.1, p.2 / 97, p.2 % 97]
inductive R_heads_of : List PyData → Res → Prop
  | mk {o : Order} : o.ro.length ≤ 1000 → R_heads_of [orderD o] (.val (.list ((headsOf o).map tupI)))
theorem d_heads_of (T : Txt K mg) (h_tag_numbers : DefOk P w K mg base "tag_numbers" ["tag"] 1 R_tag_numbers) : DefOk P w K mg base "heads_of" ["order"] 2 R_heads_of :=
  T.d_heads_of.ok sc_heads_of (by decide) (by intro ds r h; cases h <;> rfl) fun f cdv Ar outer s H E hr => ⟨_, (pss_cons (ps_set (i := 1) sc_heads_of.nd rfl (.inl rfl) (pe_op op_cat (pe_callTy (k_listOf (K := K)) (by rfl) T.b_list (by decide +kernel) (pa_cons (pe_slice (k_slT (K := K)) (pe_ix (k_ixT (K := K)) (pv 0) pe_int (fun _ _ => rfl)) (po_some pe_int) po_none) pa_nil)) (pe_lst (pa_cons (pe_ix (k_ixT (K := K)) (pv 0) pe_int (fun _ _ => rfl)) pa_nil))))
  (pss_one (ps_ret (pe_lc (own := [("there", 2), ("tag", 3)]) (g := (gTup K 2 (gCons (gName 2) (gCons (gName 3) gNil)))) (tt := tYes) rfl sc_heads_of.nd (pi_zipM (K := K) (by rfl) T.b_zip (pa_cons (pv 1) (pa_cons (pe_slice (k_slT (K := K)) (pe_ix (k_ixT (K := K)) (pv 0) pe_int (fun _ _ => rfl)) (po_some pe_int) po_none) pa_nil))) (blkOk_by (N := N_heads_of) (sc := defScope st_heads_of) (by decide +kernel)) (fun _ _ _ _ _ => (k_gtup (K := K) rfl (pgs_cons (pg_name (i := 2) sc_heads_of.nd rfl (.inl rfl)) (pgs_cons (pg_name (i := 3) sc_heads_of.nd rfl (.inl rfl)) pgs_nil)))) (fun _ _ _ _ _ => pts_nil) (fun _ _ _ _ _ => (pe_op (k_catT (K := K)) (pe_tup (pa_cons (pv 2) pa_nil)) (pe_callD h_tag_numbers (hr.mono (by decide)) (by rfl) passL (pa_cons (pv 3) pa_nil)))))))), fun ds r hR => by
    cases hR with
    | @mk o h =>
      exact .inl (show SD K E _ [.da (orderD o), .un, .un, .un] _ from (sd_seq (sd_set (ED.to (ed_catL (ed_cb (eda_cons (ED.to (ed_slT (ed_ixT (ed_var rfl) ed_int rfl rfl) (edo_some ed_int) edo_none) (by exact (show PyData.tuple (cutD (o.ro.map .int) (some 1) none) = tupI (o.ro.drop 1) by rw [cutD_from _ (by decide), ← List.map_drop]; rfl))) eda_nil) rc_list_t) (ed_lst (eda_cons (ed_ixT (ed_var rfl) ed_int rfl rfl) eda_nil)) (by have : LIM = 1000000 := rfl; rw [List.length_append, List.length_map, List.length_drop]; simp; omega)) (by exact (show PyData.list _ = .list ((o.ro.drop 1 ++ [o.r]).map .int) by simp))))
  (sd_ret (ED.to (ed_lc_map  (it_zipm (eda_cons (ed_var rfl) (eda_cons (ED.to (ed_slT (ed_ixT (ed_var rfl) ed_int rfl rfl) (edo_some ed_int) edo_none) (by exact (show PyData.tuple (cutD (o.tg.map .int) (some 1) none) = tupI (o.tg.drop 1) by rw [cutD_from _ (by decide), ← List.map_drop]; rfl))) eda_nil)) (by exact (show isSeqD _ = some (true, (o.ro.drop 1 ++ [o.r]).map .int) from rfl)) (by exact (show isSeqD _ = some (false, (o.tg.drop 1).map .int) from rfl))) (by have : LIM = 1000000 := rfl; rw [List.length_zip, List.length_append, List.length_drop]; simp; omega) (fun x hx => ⟨_, (gd_tup (gd_cons (gd_name (by decide)) (gd_cons (gd_name (by decide)) gd_nil)) rfl), ((ed_catT (ed_tup (eda_cons (ed_var rfl) eda_nil)) (ed_call (eda_cons (ed_var rfl) eda_nil) R_tag_numbers.mk) (by show 3 ≤ LIM; decide))).to (by exact (show _ = tupI [x.1, x.2 / 97, x.2 % 97] from rfl))⟩)) (by simp [headsOf])))))⟩
def tailS (long : Nat) (t pad : List Int) : List Int := offL t ((pad.take long).drop (long - t.length)) ++ pad.drop long
def tailOf (long : Nat) (pads : List (List Int)) : List Int := pads.foldl (tailS long) []
theorem off_len {a b : List Int} (h : a.length ≤ b.length) : (offL a b).length = a.length := by unfold offL; rw [List.length_map, List.length_zip]; omega
theorem over_len {a b : List Int} (h : a.length ≤ b.length) : (overL a b).length = a.length := by unfold overL; rw [List.length_map, List.length_zip]; omega
theorem tailS_len {long : Nat} {t pad : List Int} (h : t.length ≤ long) (hp : pad.length = long + 3) : (tailS long t pad).length = t.length + 3 := by
  unfold tailS
  rw [List.length_append, off_len (by rw [List.length_drop, List.length_take]; omega), List.length_drop]
  omega
theorem tail_len {long : Nat} : ∀ {pads : List (List Int)} {t : List Int}, (∀ p ∈ pads, p.length = long + 3) → t.length + 3 * pads.length ≤ long + 3 → (pads.foldl (tailS long) t).length = t.length + 3 * pads.length
  | [], t, _, _ => by simp
  | p :: ps, t, h, hl => by
    simp only [List.length_cons] at hl ⊢
    have h1 := tailS_len (long := long) (t := t) (pad := p) (by omega) (h p List.mem_cons_self)
    rw [List.foldl_cons, tail_len (fun q hq => h q (List.mem_cons_of_mem _ hq)) (by omega), h1]
    omega
inductive R_tail_of : List PyData → Res → Prop
  | mk {long : Int} {pads : List (List Int)} : 0 ≤ long → long ≤ 1000 → (∀ p ∈ pads, (p.length : Int) = long + 3) → 3 * (pads.length : Int) ≤ long + 3 → R_tail_of [.int long, .list (pads.map tupI)] (.val (tupI (tailOf long.toNat pads)))

theorem tail_at {pads pre post : List (List Int)} {x : List Int} {long : Int} (hx : pads = pre ++ x :: post) (hp : ∀ p ∈ pads, p.length = long.toNat + 3) (hl : 3 * (pads.length : Int) ≤ long + 3) : ((pre.foldl (tailS long.toNat) []).length : Int) ≤ long := by
  have h1 : pads.length = pre.length + (post.length + 1) := by rw [hx]; simp
  have := tail_len (long := long.toNat) (pads := pre) (t := []) (fun p h => hp p (by rw [hx]; exact List.mem_append_left _ h)) (by simp; omega)
  simp at this
  omega
theorem d_tail_of (T : Txt K mg) (h_off : DefOk P w K mg base "off" ["one", "other"] 1 R_off) : DefOk P w K mg base "tail_of" ["long", "pads"] 2 R_tail_of :=
  T.d_tail_of.ok sc_tail_of (by decide) (by intro ds r h; cases h <;> rfl) fun f cdv Ar outer s H E hr => ⟨_, (pss_cons (ps_set (i := 2) sc_tail_of.nd rfl (.inl rfl) (pe_tup pa_nil))
  (pss_cons (ps_for PW0 rfl (k_list (K := K) (pv 1)) (pg_name (i := 3) sc_tail_of.nd rfl (.inl rfl)) (pss_one (ps_set (i := 2) sc_tail_of.nd rfl (.inl rfl) (pe_op (k_catT (K := K)) (pe_callD h_off (hr.mono (by decide)) (by rfl) passL (pa_cons (pv 2) (pa_cons (pe_slice (k_slT (K := K)) (pv 3) (po_some (pe_op op_sub (pv 0) (pe_callB (k_len (K := K)) (by rfl) T.b_len PySem.boot_len (pa_cons (pv 2) pa_nil)))) (po_some (pv 0))) pa_nil))) (pe_slice (k_slT (K := K)) (pv 3) (po_some (pv 0)) po_none)))))
  (pss_one (ps_ret (pv 2))))), fun ds r hR => by
    cases hR with
    | @mk long pads h0 h1 hp hl =>
      have hp2 : ∀ p ∈ pads, p.length = long.toNat + 3 := fun p h => by have := hp p h; omega
      exact .inl (show SD K E _ [.da (.int long), .da (.list (pads.map tupI)), .un, .un] _ from (sd_seq (sd_set (ed_tup eda_nil))
  (sd_seq (sd_for (S := fun t : List Int => [.da (.int long), .da (.list (pads.map tupI)), .da (tupI t), .un]) (step := tailS long.toNat) (b0 := []) (f := tupI) (xs := pads) (it_list (ed_var rfl)) (by walk_at "le") (fun pre post x hx => ⟨_, gs_name, .inl (SD.weak (sd_set (ED.to (ed_catT (ed_call (eda_cons (ed_var rfl) (eda_cons (ED.to (ed_slT (ed_var rfl) (edo_some (ed_sub (ed_var rfl) (ed_cb (eda_cons (ed_var rfl) eda_nil) rc_lenT))) (edo_some (ed_var rfl))) (by exact (show PyData.tuple (cutD (x.map .int) (some (long - ((List.map PyData.int (pre.foldl (tailS long.toNat) [])).length : Int))) (some long)) = tupI ((x.take long.toNat).drop (long.toNat - (pre.foldl (tailS long.toNat) []).length)) by have a := tail_at hx hp2 hl; rw [List.length_map, cutD_mid _ (by omega) h0, ← List.map_take, ← List.map_drop]; unfold tupI; congr 3; omega))) eda_nil)) (R_off.mk (by have a := tail_at hx hp2 hl; have : LIM = 1000000 := rfl; omega) (by have a := hp x (by rw [hx]; simp); have : LIM = 1000000 := rfl; rw [List.length_drop, List.length_take]; omega))) (ED.to (ed_slT (ed_var rfl) (edo_some (ed_var rfl)) edo_none) (by exact (show PyData.tuple (cutD (x.map .int) (some long) none) = tupI (x.drop long.toNat) by rw [cutD_from _ h0, ← List.map_drop]; rfl))) (by have a := tail_at hx hp2 hl; have b := hp x (by rw [hx]; simp); have : LIM = 1000000 := rfl; rw [List.length_append, List.length_map, List.length_map, List.length_drop]; have c : (offL (pre.foldl (tailS long.toNat) []) ((x.take long.toNat).drop (long.toNat - (pre.foldl (tailS long.toNat) []).length))).length ≤ (pre.foldl (tailS long.toNat) []).length := (by unfold offL; rw [List.length_map, List.length_zip]; omega); omega)) (by exact (show PyData.tuple _ = tupI (tailS long.toNat (pre.foldl (tailS long.toNat) []) x) by unfold tailS tupI; rw [List.map_append])))) (by walk_at "le"))⟩))
  (sd_ret (ED.to (ed_var rfl) (by rfl))))))⟩
def secGet (s : Sec) (p : List Int) : List Int := ((s.find? fun q => decide (q.1 = p)).map (·.2)).getD []
theorem secGet_mem {s : Sec} {p : List Int} (h : p ∈ s.map (·.1)) : (p, secGet s p) ∈ s ∧ findD (secK s) (p.map Sum.inl) = some (tupI (secGet s p)) := by
  induction s with
  | nil => simp at h
  | cons q s ih =>
    unfold secGet findD secK
    rw [List.map_cons, List.find?_cons, List.find?_cons]
    by_cases e : q.1 = p
    · subst e
      simp
    · have e' : ¬ q.1.map (Sum.inl : Int → Key) = p.map Sum.inl := fun z => e (inl_inj z)
      have h' : p ∈ s.map (·.1) := by
        rcases List.mem_cons.mp (by simpa using h : p ∈ q.1 :: s.map (·.1)) with r | r
        · exact absurd r.symm e
        · exact r
      rw [decide_eq_false e, decide_eq_false e']
      obtain ⟨a, b⟩ := ih h'
      exact ⟨List.mem_cons_of_mem _ a, b⟩
def padsOf (s : Sec) (o : Order) : List (List Int) := (orderPlaces o).map (secGet s)
def bodyS (long : Int) (q : List Int × List (List Int)) (h : List Int × List Int) : List Int × List (List Int) := (overL (h.1 ++ q.1.take (long - 3).toNat) h.2, q.2 ++ [overL (h.1 ++ q.1.take (long - 3).toNat) h.2])
def body0 (N : Net) (s : Sec) (o : Order) : List Int := overL o.b ((padsOf s o).getLast?.getD []) ++ tailOf (longOf N).toNat (padsOf s o).dropLast
def bodiesOf (N : Net) (s : Sec) (o : Order) : List (List Int) := ((((headsOf o).zip (padsOf s o)).reverse.foldl (bodyS (longOf N)) (body0 N s o, [body0 N s o])).2).reverse
structure SealOk (N : Net) (s : Sec) (o : Order) : Prop where
  net : NetOk N
  sec : SecOk N s
  ord : OrderOk N o
  all : ∀ p ∈ orderPlaces o, p ∈ s.map (·.1)
theorem places_len {N : Net} {o : Order} (h : OrderOk N o) : (orderPlaces o).length = N.st.length + 1 := by
  unfold orderPlaces placesOf
  have := h.way.ro.len; have := h.way.tl
  rw [List.length_map, List.length_zip, List.length_append, List.length_map]
  simp; omega
theorem SealOk.pads {N : Net} {s : Sec} {o : Order} (h : SealOk N s o) : (padsOf s o).length = N.st.length + 1 ∧ ∀ p ∈ padsOf s o, (p.length : Int) = longOf N + 3 := by
  refine ⟨by unfold padsOf; rw [List.length_map, places_len h.ord], fun p hp => ?_⟩
  obtain ⟨q, hq, rfl⟩ := List.mem_map.mp hp
  exact h.sec.ln _ (secGet_mem (h.all q hq)).1
theorem last_some {α : Type} {xs : List α} (h : 0 < xs.length) (d : α) : xs.getLast? = some (xs.getLast?.getD d) ∧ xs.getLast?.getD d ∈ xs := by
  obtain ⟨y, hy⟩ : ∃ y, xs.getLast? = some y := by
    cases xs with
    | nil => simp at h
    | cons x xs => exact ⟨_, List.getLast?_cons⟩
  rw [hy]
  exact ⟨rfl, List.mem_of_getLast? hy⟩
theorem heads3 {o : Order} {x : List Int} (h : x ∈ headsOf o) : x.length = 3 := by
  obtain ⟨p, _, rfl⟩ := List.mem_map.mp h; rfl
theorem seal_at {N : Net} {s : Sec} {o : Order} (h : SealOk N s o) {pre post : List (List Int × List Int)} {x : List Int × List Int} (hx : ((headsOf o).zip (padsOf s o)).reverse = pre ++ x :: post) : x.1.length = 3 ∧ (x.2.length : Int) = longOf N + 3 ∧ pre.length ≤ 1000 := by
  have hm : x ∈ (headsOf o).zip (padsOf s o) := List.mem_reverse.mp (by rw [hx]; simp)
  have hz := List.of_mem_zip (a := x.1) (b := x.2) hm
  have hl := congrArg List.length hx
  rw [List.length_reverse, List.length_zip, h.pads.1, List.length_append] at hl
  have := h.net.s3
  exact ⟨heads3 hz.1, h.pads.2 _ hz.2, by omega⟩
theorem bodyS_len2 (long : Int) (q : List Int × List (List Int)) (xs : List (List Int × List Int)) : (xs.foldl (bodyS long) q).2.length = q.2.length + xs.length := by
  induction xs generalizing q with
  | nil => rfl
  | cons x xs ih => rw [List.foldl_cons, ih, bodyS]; simp; omega
inductive R_bodies_of : List PyData → Res → Prop
  | mk {N : Net} {s : Sec} {o : Order} : SealOk N s o → R_bodies_of [netD N, secD s, orderD o] (.val (.list ((bodiesOf N s o).map tupI)))
theorem d_bodies_of (T : Txt K mg) (h_heads_of : DefOk P w K mg base "heads_of" ["order"] 2 R_heads_of) (h_long_of : DefOk P w K mg base "long_of" ["net"] 1 R_long_of) (h_order_places : DefOk P w K mg base "order_places" ["order"] 2 R_order_places) (h_over : DefOk P w K mg base "over" ["one", "other"] 1 R_over) (h_tail_of : DefOk P w K mg base "tail_of" ["long", "pads"] 2 R_tail_of) : DefOk P w K mg base "bodies_of" ["net", "secrets", "order"] 3 R_bodies_of :=
  T.d_bodies_of.ok sc_bodies_of (by decide) (by intro ds r h; cases h <;> rfl) fun f cdv Ar outer s H E hr => ⟨_, (pss_cons (ps_set (i := 3) sc_bodies_of.nd rfl (.inl rfl) (pe_callD h_long_of (hr.mono (by decide)) (by rfl) passL (pa_cons (pv 0) pa_nil)))
  (pss_cons (ps_setLc (i := 4) (own := [("place", 9)]) (g := (gName 9)) (tt := tYes) rfl sc_bodies_of.nd rfl rfl (sw_true rfl rfl rfl (by decide +kernel)) (k_list (K := K) (pe_callD h_order_places (hr.mono (by decide)) (by rfl) passL (pa_cons (pv 2) pa_nil))) (blkOk_by (N := N_bodies_of) (sc := defScope st_bodies_of) (by decide +kernel)) (fun _ _ _ _ _ => (pg_name (i := 9) sc_bodies_of.nd rfl (.inl rfl))) (fun _ _ _ _ _ => pts_nil) (fun _ _ _ _ _ => (pe_dget (hu_of hr) (pv 1) (pv 9) (fun _ _ => rfl))))
  (pss_cons (ps_set (i := 5) sc_bodies_of.nd rfl (.inl rfl) (pe_op (k_catT (K := K)) (pe_callD h_over (hr.mono (by decide)) (by rfl) passL (pa_cons (pe_ix (k_ixT (K := K)) (pv 2) pe_int (fun _ _ => rfl)) (pa_cons (pe_ix (k_ixL (K := K)) (pv 4) (pe_un un_neg pe_int) (fun _ _ => rfl)) pa_nil))) (pe_callD h_tail_of (hr.mono (by decide)) (by rfl) passL (pa_cons (pv 3) (pa_cons (pe_slice (k_slL (K := K)) (pv 4) po_none (po_some (pe_un un_neg pe_int))) pa_nil)))))
  (pss_cons (ps_set (i := 6) sc_bodies_of.nd rfl (.inl rfl) (pe_lst (pa_cons (pv 5) pa_nil)))
  (pss_cons (ps_for PW0 rfl (k_list (K := K) (k_rev (K := K) (pe_lzip rfl (by rfl) T.b_list (by rfl) T.b_zip (pa_cons (pe_callD h_heads_of (hr.mono (by decide)) (by rfl) passL (pa_cons (pv 2) pa_nil)) (pa_cons (pv 4) pa_nil)) (K := K)))) (k_gtup (K := K) rfl (pgs_cons (pg_name (i := 7) sc_bodies_of.nd rfl (.inl rfl)) (pgs_cons (pg_name (i := 8) sc_bodies_of.nd rfl (.inl rfl)) pgs_nil))) (pss_cons (ps_set (i := 5) sc_bodies_of.nd rfl (.inl rfl) (pe_callD h_over (hr.mono (by decide)) (by rfl) passL (pa_cons (pe_op (k_catT (K := K)) (pv 7) (pe_slice (k_slT (K := K)) (pv 5) po_none (po_some (pe_op op_sub (pv 3) (pe_globI (by rfl) T.m_HEAD))))) (pa_cons (pv 8) pa_nil))))
  (pss_one (ps_expr (pe_bm PySem.F.plainAttrs_list PySem.F.slot_list_append PySem.F.type_list_append mt_append (pv 6) (pa_cons (pv 5) pa_nil))))))
  (pss_one (ps_ret (k_rev (K := K) (pv 6))))))))), fun ds r hR => by
    cases hR with
    | @mk N s o h =>
      obtain ⟨hp1, hp2⟩ := h.pads
      have hl := long_in h.net
      have hs3 := h.net.s3
      have hlast := last_some (xs := padsOf s o) (by omega) []
      have hbl := h.ord.bl
      have hlast2 := hp2 _ hlast.2
      have hw := h.net.w16
      have hLIM : LIM = 1000000 := rfl
      have hlg : longOf N = 3 * (N.st.length : Int) + N.w := rfl
      exact .inl (show SD K E _ [.da (netD N), .da (secD s), .da (orderD o), .un, .un, .un, .un, .un, .un, .un] _ from (sd_seq (sd_set (ed_call (eda_cons (ed_var rfl) eda_nil) R_long_of.mk))
  (sd_seq (sd_set (ED.to (ed_lc_map (f := tupI) (xs := orderPlaces o) (it_list (ed_call (eda_cons (ed_var rfl) eda_nil) (R_order_places.mk (by have := h.ord.rl h.net; omega)))) (by rw [places_len h.ord]; omega) (fun x hx => ⟨_, (gd_name (by decide)), ((ed_dgetT (ed_var rfl) (ED.to (ed_var rfl) (show _ = (tkD (x.map Sum.inl)) from (tkD_tupI x).symm)) (by exact (secGet_mem (h.all x hx)).2))).to (by rfl)⟩)) (by exact (show PyData.list _ = .list ((padsOf s o).map tupI) by unfold padsOf; rw [List.map_map]; rfl))))
  (sd_seq (sd_set (ED.to (ed_catT (ed_call (eda_cons (ed_ixT (ed_var rfl) ed_int rfl rfl) (eda_cons (ed_ixLlast (ed_var rfl) (ed_neg ed_int) (by exact ⟨rfl, hlast.1⟩)) eda_nil)) (R_over.mk (by omega) (by omega))) (ed_call (eda_cons (ed_var rfl) (eda_cons (ED.to (ed_slL (ed_var rfl) edo_none (edo_some (ed_neg ed_int))) (by exact (show PyData.list (cutD ((padsOf s o).map tupI) none (some (-1))) = .list ((padsOf s o).dropLast.map tupI) by rw [cutD_init, List.map_dropLast]))) eda_nil)) (R_tail_of.mk (by omega) (by omega) (fun p hp => hp2 p (List.dropLast_subset _ hp)) (by rw [List.length_dropLast]; omega))) (by have a := tail_len (long := (longOf N).toNat) (pads := (padsOf s o).dropLast) (t := []) (fun p hp => by have := hp2 p (List.dropLast_subset _ hp); omega) (by rw [List.length_dropLast]; simp; omega); rw [List.length_dropLast] at a; rw [List.length_append, List.length_map, List.length_map]; have b : (overL o.b ((padsOf s o).getLast?.getD [])).length ≤ ((padsOf s o).getLast?.getD []).length := (by unfold overL; rw [List.length_map, List.length_zip]; omega); unfold tailOf; simp at a; omega)) (by exact (show PyData.tuple _ = tupI (body0 N s o) by unfold body0 tupI; rw [List.map_append]))))
  (sd_seq (sd_new (eda_cons (ed_var rfl) eda_nil))
  (sd_seq (sd_for (S := fun q : List Int × List (List Int) => [.da (netD N), .da (secD s), .da (orderD o), .da (.int (longOf N)), .da (.list ((padsOf s o).map tupI)), .da (tupI q.1), .ow (mlA K (q.2.map tupI)), .un, .un, .un]) (step := bodyS (longOf N)) (b0 := (body0 N s o, [body0 N s o])) (f := fun p : List Int × List Int => .tuple [tupI p.1, tupI p.2]) (xs := ((headsOf o).zip (padsOf s o)).reverse) (it_list (ed_revm (ed_lzipm (eda_cons (ed_call (eda_cons (ed_var rfl) eda_nil) (R_heads_of.mk (by have := h.ord.rl h.net; omega))) (eda_cons (ed_var rfl) eda_nil)) (by exact (show isSeqD _ = some (true, (headsOf o).map tupI) from rfl)) (by exact (show isSeqD _ = some (true, (padsOf s o).map tupI) from rfl))))) (by walk_at "le") (fun pre post x hx => ⟨_, (gs_tup (gs_cons gs_name (gs_cons gs_name gs_nil)) rfl), .inl (sd_seq (sd_set (ED.to (ed_call (eda_cons (ed_catT (ed_var rfl) (ED.to (ed_slT (ed_var rfl) edo_none (edo_some (ed_sub (ed_var rfl) ed_int))) (by exact (show PyData.tuple (cutD ((pre.foldl (bodyS (longOf N)) (body0 N s o, [body0 N s o])).1.map .int) none (some (longOf N - 3))) = tupI ((pre.foldl (bodyS (longOf N)) (body0 N s o, [body0 N s o])).1.take (longOf N - 3).toNat) by rw [cutD_to _ (by omega), ← List.map_take]; rfl))) (by have a := seal_at h hx; rw [List.length_append, List.length_map, List.length_map, List.length_take]; omega)) (eda_cons (ed_var rfl) eda_nil)) (show R_over [PyData.tuple (x.1.map .int ++ ((pre.foldl (bodyS (longOf N)) (body0 N s o, [body0 N s o])).1.take (longOf N - 3).toNat).map .int), tupI x.2] (.val (tupI (bodyS (longOf N) (pre.foldl (bodyS (longOf N)) (body0 N s o, [body0 N s o])) x).1)) by rw [← List.map_append]; have a := seal_at h hx; exact R_over.mk (by rw [List.length_append, List.length_take]; omega) (by omega))) (by exact (show _ = tupI (bodyS (longOf N) (pre.foldl (bodyS (longOf N)) (body0 N s o, [body0 N s o])) x).1 from rfl))))
  (SD.weak (sd_append rfl (ed_var rfl) (by have a := seal_at h hx; rw [List.length_map, bodyS_len2]; simp; omega)) (by generalize List.foldl (bodyS (longOf N)) _ pre = q; simp only [bodyS, List.map_append, List.map_cons, List.map_nil]; walk_at "le")))⟩))
  (sd_freeze 6 rfl (sd_ret (ED.to (ed_revm (ed_var rfl)) (by rfl))))))))))⟩
def textsOf (N : Net) (s : Sec) (o : Order) : List Text := (o.tg.zip (bodiesOf N s o)).map fun p => ⟨p.1, p.2⟩
inductive R_texts_by : List PyData → Res → Prop
  | mk {N : Net} {s : Sec} {o : Order} : SealOk N s o → R_texts_by [netD N, secD s, orderD o] (.val (.list ((textsOf N s o).map textD)))
theorem d_texts_by (T : Txt K mg) (h_bodies_of : DefOk P w K mg base "bodies_of" ["net", "secrets", "order"] 3 R_bodies_of) : DefOk P w K mg base "texts_by" ["net", "secrets", "order"] 4 R_texts_by :=
  T.d_texts_by.ok sc_texts_by (by decide) (by intro ds r h; cases h <;> rfl) fun f cdv Ar outer s H E hr => ⟨_, (pss_one (ps_ret (pe_lzip rfl (by rfl) T.b_list (by rfl) T.b_zip (pa_cons (pe_ix (k_ixT (K := K)) (pv 2) pe_int (fun _ _ => rfl)) (pa_cons (pe_callD h_bodies_of (hr.mono (by decide)) (by rfl) passL (pa_cons (pv 0) (pa_cons (pv 1) (pa_cons (pv 2) pa_nil)))) pa_nil)) (K := K)))), fun ds r hR => by
    cases hR with
    | @mk N s o h =>
      exact .inl (show SD K E _ [.da (netD N), .da (secD s), .da (orderD o)] _ from (sd_ret (ED.to (ed_lzipm (eda_cons (ed_ixT (ed_var rfl) ed_int rfl rfl) (eda_cons (ed_call (eda_cons (ed_var rfl) (eda_cons (ed_var rfl) (eda_cons (ed_var rfl) eda_nil))) (R_bodies_of.mk h)) eda_nil)) (by exact (show isSeqD _ = some (false, o.tg.map .int) from rfl)) (by exact (show isSeqD _ = some (true, (bodiesOf N s o).map tupI) from rfl))) (by unfold textsOf; rw [List.map_map]; rfl))))⟩
def plainOf (pad : List Int) (x : Text) : List Int := offL x.body pad
def peelText (N : Net) (pad : List Int) (x : Text) : Text := ⟨(plainOf pad x).getD 1 0 * 97 + (plainOf pad x).getD 2 0, (plainOf pad x).drop 3 ++ pad.drop (longOf N).toNat⟩
inductive R_peeled_by : List PyData → Res → Prop
  | mk {N : Net} {pad : List Int} {x : Text} : NetOk N → (pad.length : Int) = longOf N + 3 → (x.body.length : Int) = longOf N → R_peeled_by [netD N, tupI pad, textD x] (.val (.tuple [.int ((plainOf pad x).getD 0 0), textD (peelText N pad x)]))
theorem d_peeled_by (T : Txt K mg) (h_long_of : DefOk P w K mg base "long_of" ["net"] 1 R_long_of) (h_off : DefOk P w K mg base "off" ["one", "other"] 1 R_off) : DefOk P w K mg base "peeled_by" ["net", "pad", "text"] 2 R_peeled_by :=
  T.d_peeled_by.ok sc_peeled_by (by decide) (by intro ds r h; cases h <;> rfl) fun f cdv Ar outer s H E hr => ⟨_, (pss_cons (ps_set (i := 3) sc_peeled_by.nd rfl (.inl rfl) (pe_callD h_long_of (hr.mono (by decide)) (by rfl) passL (pa_cons (pv 0) pa_nil)))
  (pss_cons (ps_set (i := 4) sc_peeled_by.nd rfl (.inl rfl) (pe_callD h_off (hr.mono (by decide)) (by rfl) passL (pa_cons (pe_ix (k_ixT (K := K)) (pv 2) pe_int (fun _ _ => rfl)) (pa_cons (pv 1) pa_nil))))
  (pss_one (ps_ret (pe_tup (pa_cons (pe_ix (k_ixT (K := K)) (pv 4) pe_int (fun _ _ => rfl)) (pa_cons (pe_tup (pa_cons (pe_op op_add (pe_op op_mul (pe_ix (k_ixT (K := K)) (pv 4) pe_int (fun _ _ => rfl)) (pe_globI (by rfl) T.m_MOD)) (pe_ix (k_ixT (K := K)) (pv 4) pe_int (fun _ _ => rfl))) (pa_cons (pe_op (k_catT (K := K)) (pe_slice (k_slT (K := K)) (pv 4) (po_some (pe_globI (by rfl) T.m_HEAD)) po_none) (pe_slice (k_slT (K := K)) (pv 1) (po_some (pv 3)) po_none)) pa_nil))) pa_nil))))))), fun ds r hR => by
    cases hR with
    | @mk N pad x hN hp hx =>
      have hl := long_in hN
      have ho : (plainOf pad x).length = x.body.length := off_len (by omega)
      exact .inl (show SD K E _ [.da (netD N), .da (tupI pad), .da (textD x), .un, .un] _ from (sd_seq (sd_set (ed_call (eda_cons (ed_var rfl) eda_nil) R_long_of.mk))
  (sd_seq (sd_set (ED.to (ed_call (eda_cons (ed_ixT (ed_var rfl) ed_int rfl rfl) (eda_cons (ed_var rfl) eda_nil)) (R_off.mk (by have : LIM = 1000000 := rfl; omega) (by have : LIM = 1000000 := rfl; omega))) (by exact (show _ = tupI (plainOf pad x) from rfl))))
  (sd_ret (ED.to (ed_tup (eda_cons (ed_ixTi (ed_var rfl) ed_int (by decide) (by (rw [ho]; omega))) (eda_cons (ed_tup (eda_cons (ed_add (ed_mul (ed_ixTi (ed_var rfl) ed_int (by decide) (by (rw [ho]; omega))) ed_int (by exact .inr (by decide))) (ed_ixTi (ed_var rfl) ed_int (by decide) (by (rw [ho]; omega)))) (eda_cons (ed_catT (ED.to (ed_slT (ed_var rfl) (edo_some ed_int) edo_none) (by exact (show PyData.tuple (cutD ((plainOf pad x).map .int) (some 3) none) = tupI ((plainOf pad x).drop 3) by rw [cutD_from _ (by decide), ← List.map_drop]; rfl))) (ED.to (ed_slT (ed_var rfl) (edo_some (ed_var rfl)) edo_none) (by exact (show PyData.tuple (cutD (pad.map .int) (some (longOf N)) none) = tupI (pad.drop (longOf N).toNat) by rw [cutD_from _ (by omega), ← List.map_drop]; rfl))) (by have : LIM = 1000000 := rfl; rw [List.length_append, List.length_map, List.length_map, List.length_drop, List.length_drop]; omega)) eda_nil))) eda_nil))) (by unfold textD peelText tupI; rw [List.map_append]; rfl))))))⟩
def nextPlace (N : Net) (stage number : Int) : PyData :=
  if stage + 1 < N.st.length then (if number ∈ hostsBy N (stage + 1).toNat then .tuple [.int 0, .int number] else .none) else (if number < N.n then .tuple [.int 1, .int number] else .none)
inductive R_next_place : List PyData → Res → Prop
  | mk {N : Net} {stage number : Int} : NetOk N → 0 ≤ stage → R_next_place [netD N, .int stage, .int number] (.val (nextPlace N stage number))
theorem d_next_place (T : Txt K mg) (h_hosts_by : DefOk P w K mg base "hosts_by" ["net", "stage"] 1 R_hosts_by) : DefOk P w K mg base "next_place" ["net", "stage", "number"] 2 R_next_place :=
  T.d_next_place.ok sc_next_place (by decide) (by intro ds r h; cases h <;> rfl) fun f cdv Ar outer s H E hr => ⟨_, (pss_cons (ps_if (pt_cmpR op_lt (pe_op op_add (pv 1) pe_int) (pe_callB (k_len (K := K)) (by rfl) T.b_len PySem.boot_len (pa_cons (pe_ix (k_ixT (K := K)) (pv 0) pe_int (fun _ _ => rfl)) pa_nil)) (nomark _)) (pss_one (ps_ret (pe_ifExp (pt_cmpR (k_in (K := K)) (pv 2) (pe_callD h_hosts_by (hr.mono (by decide)) (by rfl) passL (pa_cons (pv 0) (pa_cons (pe_op op_add (pv 1) pe_int) pa_nil))) (by with_unfolding_all rfl)) (pe_tup (pa_cons pe_int (pa_cons (pv 2) pa_nil))) pe_non))) pss_nil)
  (pss_one (ps_ret (pe_ifExp (pt_cmpR op_lt (pv 2) (pe_ix (k_ixT (K := K)) (pv 0) pe_int (fun _ _ => rfl)) (nomark _)) (pe_tup (pa_cons pe_int (pa_cons (pv 2) pa_nil))) pe_non)))), fun ds r hR => by
    cases hR with
    | @mk N stage number hN h =>
      have e : ((N.st.map stageD).length : Int) = N.st.length := by rw [List.length_map]
      exact .inl (show SD K E _ [.da (netD N), .da (.int stage), .da (.int number)] _ from (sd_ifs (et_cmp (ed_lt (ed_add (ed_var rfl) ed_int) (ed_cb (eda_cons (ed_ixT (ed_var rfl) ed_int rfl rfl) eda_nil) rc_lenT))) (fun hb => (sd_ret_seq (ED.to (ed_if (d := if number ∈ hostsBy N (stage + 1).toNat then .tuple [.int 0, .int number] else .none) (et_cmp (ed_inI (ed_var rfl) (ed_call (eda_cons (ed_var rfl) (eda_cons (ed_add (ed_var rfl) ed_int) eda_nil)) (R_hosts_by.mk hN (by omega) (by simp at hb; omega))) (by exact rfl))) (fun hb => ((ed_tup (eda_cons ed_int (eda_cons (ed_var rfl) eda_nil)))).to (by rw [if_pos (by simpa using hb)])) (fun hb => (ed_non).to (by rw [if_neg (by simpa using hb)]))) (by unfold nextPlace; rw [if_pos (show stage + 1 < (N.st.length : Int) by simpa using hb)])))) (fun hb => (sd_nexts (sd_ret (ED.to (ed_if (d := if number < N.n then .tuple [.int 1, .int number] else .none) (et_cmp (ed_lt (ed_var rfl) (ed_ixT (ed_var rfl) ed_int rfl rfl))) (fun hb => ((ed_tup (eda_cons ed_int (eda_cons (ed_var rfl) eda_nil)))).to (by rw [if_pos (by simpa using hb)])) (fun hb => (ed_non).to (by rw [if_neg (by simpa using hb)]))) (by unfold nextPlace; rw [if_neg (show ¬ stage + 1 < (N.st.length : Int) by simpa using hb)])))))))⟩
structure Posting where
  t : Int
  w : Int
  h : Int
  x : Text
def postD (p : Posting) : PyData := .tuple [.int p.t, .int p.w, .int p.h, textD p.x]
structure PostOk (N : Net) (p : Posting) : Prop where
  t0 : 0 ≤ p.t
  t1 : p.t ≤ 79
  w0 : 0 ≤ p.w
  wn : p.w < N.n
  h0 : 0 ≤ p.h
  hn : p.h < ((hostsBy N 0).length : Int)
  x : TextOk N p.x
inductive R_is_posting : List PyData → Res → Prop
  | mk {N : Net} {p : Posting} : NetOk N → PostOk N p → R_is_posting [netD N, postD p] (.val (.bool true))
theorem d_is_posting (T : Txt K mg) (h_hosts_by : DefOk P w K mg base "hosts_by" ["net", "stage"] 1 R_hosts_by) (h_is_between : DefOk P w K mg base "is_between" ["thing", "least", "most"] 2 R_is_between) (h_is_text : DefOk P w K mg base "is_text" ["net", "thing"] 4 R_is_text) (h_is_tuple_of : DefOk P w K mg base "is_tuple_of" ["thing", "many"] 1 R_is_tuple_of) (h_is_under : DefOk P w K mg base "is_under" ["thing", "many"] 2 R_is_under) : DefOk P w K mg base "is_posting" ["net", "thing"] 5 R_is_posting :=
  T.d_is_posting.ok sc_is_posting (by decide) (by intro ds r h; cases h <;> rfl) fun f cdv Ar outer s H E hr => ⟨_, (pss_cons (ps_if (PW.pt (pw_or (pt_not (pt_val (pe_callD h_is_tuple_of (hr.mono (by decide)) (by rfl) passL (pa_cons (pv 1) (pa_cons pe_int pa_nil))))) (pw_or (pt_not (pt_val (pe_callD h_is_between (hr.mono (by decide)) (by rfl) passL (pa_cons (pe_ix (k_ixT (K := K)) (pv 1) pe_int (fun _ _ => rfl)) (pa_cons pe_int (pa_cons (pe_op op_sub (pe_globI (by rfl) T.m_MOST_TICKS) pe_int) pa_nil)))))) (pw_or1 (pt_not (pt_val (pe_callD h_is_under (hr.mono (by decide)) (by rfl) passL (pa_cons (pe_ix (k_ixT (K := K)) (pv 1) pe_int (fun _ _ => rfl)) (pa_cons (pe_ix (k_ixT (K := K)) (pv 0) pe_int (fun _ _ => rfl)) pa_nil))))))))) (pss_one (ps_ret pe_bl)) pss_nil)
  (pss_one (ps_ret (pe_and (pe_callD h_is_under (hr.mono (by decide)) (by rfl) passL (pa_cons (pe_ix (k_ixT (K := K)) (pv 1) pe_int (fun _ _ => rfl)) (pa_cons (pe_callB (k_len (K := K)) (by rfl) T.b_len PySem.boot_len (pa_cons (pe_callD h_hosts_by (hr.mono (by decide)) (by rfl) passL (pa_cons (pv 0) (pa_cons pe_int pa_nil))) pa_nil)) pa_nil))) (pe_one (pe_callD h_is_text (hr.mono (by decide)) (by rfl) passL (pa_cons (pv 0) (pa_cons (pe_ix (k_ixT (K := K)) (pv 1) pe_int (fun _ _ => rfl)) pa_nil)))))))), fun ds r hR => by
    cases hR with
    | @mk N p hN h =>
      have h1 := hN.s1
      have ha := h.t0
      have hb1 := h.t1
      have hc := h.w0
      have hd := h.wn
      have he := h.h0
      have hf := h.hn
      exact .inl (show SD K E _ [.da (netD N), .da (postD p)] _ from (sd_ifs (b := false) (ET.to (et_or (et_not (et_val (ed_call (eda_cons (ed_var rfl) (eda_cons ed_int eda_nil)) R_is_tuple_of.mk))) (fun hb => (et_or (et_not (et_val (ed_call (eda_cons (ed_ixT (ed_var rfl) ed_int rfl rfl) (eda_cons ed_int (eda_cons (ed_sub ed_int ed_int) eda_nil))) R_is_between.mk))) (fun hb => (et_not (et_val (ed_call (eda_cons (ed_ixT (ed_var rfl) ed_int rfl rfl) (eda_cons (ed_ixT (ed_var rfl) ed_int rfl rfl) eda_nil)) R_is_under.mk))))))) (by simp; omega)) (fun hb => Bool.noConfusion hb) (fun hb => (sd_nexts (sd_ret (ED.to (ed_and (ed_call (eda_cons (ed_ixT (ed_var rfl) ed_int rfl rfl) (eda_cons (ed_cb (eda_cons (ed_call (eda_cons (ed_var rfl) (eda_cons ed_int eda_nil)) (R_hosts_by.mk hN (by decide) (by omega))) eda_nil) rc_lenL) eda_nil)) R_is_under.mk) (fun hb => (ed_call (eda_cons (ed_var rfl) (eda_cons (ed_ixT (ed_var rfl) ed_int rfl rfl) eda_nil)) (R_is_text.mk hN h.x)))) (by simp; omega)))))))⟩
def postsD (ps : List Posting) : PyData := .tuple (ps.map postD)
inductive R_are_postings : List PyData → Res → Prop
  | mk {N : Net} {ps : List Posting} : NetOk N → ps.length ≤ 24 → (∀ p ∈ ps, PostOk N p) → R_are_postings [netD N, postsD ps] (.val (.bool true))
theorem d_are_postings (T : Txt K mg) (h_is_posting : DefOk P w K mg base "is_posting" ["net", "thing"] 5 R_is_posting) : DefOk P w K mg base "are_postings" ["net", "thing"] 6 R_are_postings :=
  T.d_are_postings.ok sc_are_postings (by decide) (by intro ds r h; cases h <;> rfl) fun f cdv Ar outer s H E hr => ⟨_, (pss_one (ps_ret (pe_and (pe_callB (k_isi (K := K)) (by rfl) T.b_isinstance (by decide +kernel) (pa_cons (pv 1) (pa_cons (pe_bltn (v := .ty "tuple") (by rfl) T.b_tuple (by decide +kernel) rfl) pa_nil))) (pe_and (pe_cmpR op_le (pe_callB (k_len (K := K)) (by rfl) T.b_len PySem.boot_len (pa_cons (pv 1) pa_nil)) (pe_globI (by rfl) T.m_MOST_POSTED) (nomark _)) (pe_one (pe_callB (k_all (K := K)) (by rfl) T.b_all (by decide +kernel) (pa_cons (pe_lc (own := [("one", 2)]) (g := (gName 2)) (tt := tYes) rfl sc_are_postings.nd (k_tup (K := K) (pv 1)) (blkOk_by (N := N_are_postings) (sc := defScope st_are_postings) (by decide +kernel)) (fun _ _ _ _ _ => (pg_name (i := 2) sc_are_postings.nd rfl (.inl rfl))) (fun _ _ _ _ _ => pts_nil) (fun _ _ _ _ _ => (pe_callD h_is_posting (hr.mono (by decide)) (by rfl) passL (pa_cons (pv 0) (pa_cons (pv 2) pa_nil))))) pa_nil))))))), fun ds r hR => by
    cases hR with
    | @mk N ps hN hl h =>
      exact .inl (show SD K E _ [.da (netD N), .da (postsD ps), .un] _ from (sd_ret (ED.to (ed_and (ed_isi (by rfl) (ed_var rfl) (k_tuple _)) (fun hb => (ed_and (ed_le (ed_cb (eda_cons (ed_var rfl) eda_nil) rc_lenT) ed_int) (fun hb => (ed_cb (eda_cons (ed_lc_map  (it_tup (ed_var rfl)) (by have : LIM = 1000000 := rfl; omega) (fun x hx => ⟨_, (gd_name (by decide)), ((ed_call (eda_cons (ed_var rfl) (eda_cons (ed_var rfl) eda_nil)) (R_is_posting.mk hN (h x hx)))).to (by rfl)⟩)) eda_nil) rc_allm))))) (by rw [all_tt]; simp [postsD, isTup]; omega))))⟩
structure Fault where
  h : Int
  t : Int
  k : Str
  n : Int
def faultD (p : Fault) : PyData := .tuple [.int p.h, .int p.t, .str p.k, .int p.n]
structure FaultOk (N : Net) (p : Fault) : Prop where
  h0 : 0 ≤ p.h
  hn : p.h < hostCount N
  t0 : 0 ≤ p.t
  t1 : p.t ≤ 79
  k : p.k = "drop" ∨ p.k = "change" ∨ p.k = "keep" ∨ p.k = "add"
  n0 : 0 ≤ p.n
  n1 : p.n ≤ 24
inductive R_is_fault : List PyData → Res → Prop
  | mk {N : Net} {p : Fault} : NetOk N → FaultOk N p → R_is_fault [netD N, faultD p] (.val (.bool true))
theorem d_is_fault (T : Txt K mg) (h_host_count : DefOk P w K mg base "host_count" ["net"] 1 R_host_count) (h_is_between : DefOk P w K mg base "is_between" ["thing", "least", "most"] 2 R_is_between) (h_is_tuple_of : DefOk P w K mg base "is_tuple_of" ["thing", "many"] 1 R_is_tuple_of) (h_is_under : DefOk P w K mg base "is_under" ["thing", "many"] 2 R_is_under) : DefOk P w K mg base "is_fault" ["net", "thing"] 3 R_is_fault :=
  T.d_is_fault.ok sc_is_fault (by decide) (by intro ds r h; cases h <;> rfl) fun f cdv Ar outer s H E hr => ⟨_, (pss_cons (ps_if (PW.pt (pw_or (pt_not (pt_val (pe_callD h_is_tuple_of (hr.mono (by decide)) (by rfl) passL (pa_cons (pv 1) (pa_cons pe_int pa_nil))))) (pw_or (pt_not (pt_val (pe_callD h_is_under (hr.mono (by decide)) (by rfl) passL (pa_cons (pe_ix (k_ixT (K := K)) (pv 1) pe_int (fun _ _ => rfl)) (pa_cons (pe_callD h_host_count (hr.mono (by decide)) (by rfl) passL (pa_cons (pv 0) pa_nil)) pa_nil))))) (pw_or1 (pt_not (pt_val (pe_callB (k_isi (K := K)) (by rfl) T.b_isinstance (by decide +kernel) (pa_cons (pe_ix (k_ixT (K := K)) (pv 1) pe_int (fun _ _ => rfl)) (pa_cons (pe_bltn (v := .ty "str") (by rfl) T.b_str (by decide +kernel) rfl) pa_nil))))))))) (pss_one (ps_ret pe_bl)) pss_nil)
  (pss_one (ps_ret (pe_and (pe_callD h_is_between (hr.mono (by decide)) (by rfl) passL (pa_cons (pe_ix (k_ixT (K := K)) (pv 1) pe_int (fun _ _ => rfl)) (pa_cons pe_int (pa_cons (pe_op op_sub (pe_globI (by rfl) T.m_MOST_TICKS) pe_int) pa_nil)))) (pe_and (pe_cmpR (k_in (K := K)) (pe_ix (k_ixT (K := K)) (pv 1) pe_int (fun _ _ => rfl)) (pe_globT T.t_FAULTS (by rfl)) (by with_unfolding_all rfl)) (pe_one (pe_callD h_is_between (hr.mono (by decide)) (by rfl) passL (pa_cons (pe_ix (k_ixT (K := K)) (pv 1) pe_int (fun _ _ => rfl)) (pa_cons pe_int (pa_cons (pe_globI (by rfl) T.m_MOST_POSTED) pa_nil)))))))))), fun ds r hR => by
    cases hR with
    | @mk N p hN h =>
      have ha := h.h0
      have hb1 := h.hn
      have hc := h.t0
      have hd := h.t1
      have he := h.n0
      have hf := h.n1
      exact .inl (show SD K E _ [.da (netD N), .da (faultD p)] _ from (sd_ifs (b := false) (ET.to (et_or (et_not (et_val (ed_call (eda_cons (ed_var rfl) (eda_cons ed_int eda_nil)) R_is_tuple_of.mk))) (fun hb => (et_or (et_not (et_val (ed_call (eda_cons (ed_ixT (ed_var rfl) ed_int rfl rfl) (eda_cons (ed_call (eda_cons (ed_var rfl) eda_nil) (R_host_count.mk hN)) eda_nil)) R_is_under.mk))) (fun hb => (et_not (et_val (ed_isi (by rfl) (ed_ixT (ed_var rfl) ed_int rfl rfl) (k_str _)))))))) (by simp [isStrD]; omega)) (fun hb => Bool.noConfusion hb) (fun hb => (sd_nexts (sd_ret (ED.to (ed_and (ed_call (eda_cons (ed_ixT (ed_var rfl) ed_int rfl rfl) (eda_cons ed_int (eda_cons (ed_sub ed_int ed_int) eda_nil))) R_is_between.mk) (fun hb => (ed_and (ed_inG T.t_FAULTS (ed_ixT (ed_var rfl) ed_int rfl rfl)) (fun hb => (ed_call (eda_cons (ed_ixT (ed_var rfl) ed_int rfl rfl) (eda_cons ed_int (eda_cons ed_int eda_nil))) R_is_between.mk))))) (by simp [hc, hd, he, hf]; exact h.k)))))))⟩
def faultsD (ps : List Fault) : PyData := .tuple (ps.map faultD)
inductive R_are_faults : List PyData → Res → Prop
  | mk {N : Net} {ps : List Fault} : NetOk N → ps.length ≤ 8 → (∀ p ∈ ps, FaultOk N p) → R_are_faults [netD N, faultsD ps] (.val (.bool true))
theorem d_are_faults (T : Txt K mg) (h_is_fault : DefOk P w K mg base "is_fault" ["net", "thing"] 3 R_is_fault) : DefOk P w K mg base "are_faults" ["net", "thing"] 4 R_are_faults :=
  T.d_are_faults.ok sc_are_faults (by decide) (by intro ds r h; cases h <;> rfl) fun f cdv Ar outer s H E hr => ⟨_, (pss_one (ps_ret (pe_and (pe_callB (k_isi (K := K)) (by rfl) T.b_isinstance (by decide +kernel) (pa_cons (pv 1) (pa_cons (pe_bltn (v := .ty "tuple") (by rfl) T.b_tuple (by decide +kernel) rfl) pa_nil))) (pe_and (pe_cmpR op_le (pe_callB (k_len (K := K)) (by rfl) T.b_len PySem.boot_len (pa_cons (pv 1) pa_nil)) (pe_globI (by rfl) T.m_MOST_FAULTS) (nomark _)) (pe_one (pe_callB (k_all (K := K)) (by rfl) T.b_all (by decide +kernel) (pa_cons (pe_lc (own := [("one", 2)]) (g := (gName 2)) (tt := tYes) rfl sc_are_faults.nd (k_tup (K := K) (pv 1)) (blkOk_by (N := N_are_faults) (sc := defScope st_are_faults) (by decide +kernel)) (fun _ _ _ _ _ => (pg_name (i := 2) sc_are_faults.nd rfl (.inl rfl))) (fun _ _ _ _ _ => pts_nil) (fun _ _ _ _ _ => (pe_callD h_is_fault (hr.mono (by decide)) (by rfl) passL (pa_cons (pv 0) (pa_cons (pv 2) pa_nil))))) pa_nil))))))), fun ds r hR => by
    cases hR with
    | @mk N ps hN hl h =>
      exact .inl (show SD K E _ [.da (netD N), .da (faultsD ps), .un] _ from (sd_ret (ED.to (ed_and (ed_isi (by rfl) (ed_var rfl) (k_tuple _)) (fun hb => (ed_and (ed_le (ed_cb (eda_cons (ed_var rfl) eda_nil) rc_lenT) ed_int) (fun hb => (ed_cb (eda_cons (ed_lc_map  (it_tup (ed_var rfl)) (by have : LIM = 1000000 := rfl; omega) (fun x hx => ⟨_, (gd_name (by decide)), ((ed_call (eda_cons (ed_var rfl) (eda_cons (ed_var rfl) eda_nil)) (R_is_fault.mk hN (h x hx)))).to (by rfl)⟩)) eda_nil) rc_allm))))) (by rw [all_tt]; simp [faultsD, isTup]; omega))))⟩
structure RunOk (N : Net) (s : Sec) (ps : List Posting) (fs : List Fault) (t : Int) : Prop where
  net : NetOk N
  sec : SecOk N s
  few : ps.length ≤ 24
  po : ∀ p ∈ ps, PostOk N p
  ffew : fs.length ≤ 8
  fo : ∀ p ∈ fs, FaultOk N p
  t1 : 1 ≤ t
  t80 : t ≤ 80
inductive R_need_run : List PyData → Res → Prop
  | mk {N : Net} {s : Sec} {ps : List Posting} {fs : List Fault} {t : Int} : RunOk N s ps fs t → R_need_run [netD N, secD s, postsD ps, faultsD fs, .int t] (.val .none)
theorem d_need_run (T : Txt K mg) (h_are_faults : DefOk P w K mg base "are_faults" ["net", "thing"] 4 R_are_faults) (h_are_postings : DefOk P w K mg base "are_postings" ["net", "thing"] 6 R_are_postings) (h_is_between : DefOk P w K mg base "is_between" ["thing", "least", "most"] 2 R_is_between) (h_need_secrets : DefOk P w K mg base "need_secrets" ["net", "secrets"] 8 R_need_secrets) : DefOk P w K mg base "need_run" ["net", "secrets", "postings", "faults", "ticks"] 9 R_need_run :=
  T.d_need_run.ok sc_need_run (by decide) (by intro ds r h; cases h <;> rfl) fun f cdv Ar outer s H E hr => ⟨_, (pss_cons (ps_expr (pe_callD h_need_secrets (hr.mono (by decide)) (by rfl) passC (pa_cons (pv 0) (pa_cons (pv 1) pa_nil))))
  (pss_cons (ps_if (pt_not (pt_val (pe_callD h_are_postings (hr.mono (by decide)) (by rfl) passL (pa_cons (pv 0) (pa_cons (pv 2) pa_nil))))) (pss_one (ps_raiseD T.x_NoRun rfl (takes_of rfl rfl rfl rfl) (by rfl))) pss_nil)
  (pss_cons (ps_if (pt_not (pt_val (pe_callD h_are_faults (hr.mono (by decide)) (by rfl) passL (pa_cons (pv 0) (pa_cons (pv 3) pa_nil))))) (pss_one (ps_raiseD T.x_NoFaults rfl (takes_of rfl rfl rfl rfl) (by rfl))) pss_nil)
  (pss_one (ps_if (pt_not (pt_val (pe_callD h_is_between (hr.mono (by decide)) (by rfl) passL (pa_cons (pv 4) (pa_cons pe_int (pa_cons (pe_globI (by rfl) T.m_MOST_TICKS) pa_nil)))))) (pss_one (ps_raiseD T.x_NoRun rfl (takes_of rfl rfl rfl rfl) (by rfl))) pss_nil))))), fun ds r hR => by
    cases hR with
    | @mk N s ps fs t h =>
      have ht := h.t1
      have hu := h.t80
      exact .inr ⟨rfl, _, (show SD K E _ [.da (netD N), .da (secD s), .da (postsD ps), .da (faultsD fs), .da (.int t)] _ from (sd_seq (sd_drop (ed_call (eda_cons (ed_var rfl) (eda_cons (ed_var rfl) eda_nil)) (R_need_secrets.mk h.net h.sec)))
  (sd_ifs (b := false) (ET.to (et_not (et_val (ed_call (eda_cons (ed_var rfl) (eda_cons (ed_var rfl) eda_nil)) (R_are_postings.mk h.net h.few h.po)))) (by rfl)) (fun hb => Bool.noConfusion hb) (fun hb => (sd_nexts (sd_ifs (b := false) (ET.to (et_not (et_val (ed_call (eda_cons (ed_var rfl) (eda_cons (ed_var rfl) eda_nil)) (R_are_faults.mk h.net h.ffew h.fo)))) (by rfl)) (fun hb => Bool.noConfusion hb) (fun hb => (sd_nexts (sd_if (b := false) (ET.to (et_not (et_val (ed_call (eda_cons (ed_var rfl) (eda_cons ed_int (eda_cons ed_int eda_nil))) R_is_between.mk))) (by simp; omega)) (fun hb => Bool.noConfusion hb) (fun hb => sd_next))))))))))⟩⟩
structure Srt {α : Type} (f : α → PyData) : Prop where
  al : ∀ x y, PySem.W.alike (f x) (f y) = true
  tu : ∀ x, ∃ a r, f x = .tuple (a :: r)
  dp : ∀ x, (f x).depth ≤ 60
  cl : ∀ x, (f x).canLay0 = true
theorem Srt.sal {α : Type} {f : α → PyData} (h : Srt f) (xs : List α) : PySem.W.AllAlike (xs.map f) := fun d hd e he => by
  obtain ⟨x, _, rfl⟩ := List.mem_map.mp hd
  obtain ⟨y, _, rfl⟩ := List.mem_map.mp he
  exact h.al x y
theorem Srt.sso {α : Type} {f : α → PyData} (h : Srt f) (xs : List α) : PySem.W.Sortable (xs.map f) := .inl fun d hd => by
  obtain ⟨x, _, rfl⟩ := List.mem_map.mp hd
  exact h.tu x
theorem Srt.sdp {α : Type} {f : α → PyData} (h : Srt f) (xs : List α) : ∀ d ∈ xs.map f, d.depth ≤ 60 := fun d hd => by
  obtain ⟨x, _, rfl⟩ := List.mem_map.mp hd
  exact h.dp x
theorem Srt.scl {α : Type} {f : α → PyData} (h : Srt f) : ∀ xs : List α, PyData.canLayAll0 (xs.map f) = true
  | [] => rfl
  | x :: xs => by show ((f x).canLay0 && PyData.canLayAll0 (xs.map f)) = true; rw [h.cl x, h.scl xs]; rfl
theorem alike_ints : ∀ xs ys : List Int, PySem.W.alikeAll (xs.map .int) (ys.map .int) = true
  | [], _ => by rw [List.map_nil, PySem.W.alikeAll]
  | _ :: _, [] => by rw [List.map_nil, List.map_cons, PySem.W.alikeAll]
  | x :: xs, y :: ys => by rw [List.map_cons, List.map_cons, PySem.W.alikeAll, PySem.W.alike, alike_ints xs ys]; rfl
theorem depth_ints (xs : List Int) : PyData.depthAll (xs.map .int) = 0 := by
  induction xs with
  | nil => rfl
  | cons y x ih => show max 0 (PyData.depthAll (x.map .int)) = 0; rw [ih]; rfl
theorem lay_ints (xs : List Int) : PyData.canLayAll0 (xs.map .int) = true := by
  induction xs with
  | nil => rfl
  | cons y x ih => show (true && PyData.canLayAll0 (x.map .int)) = true; rw [ih]; rfl
theorem srt_text : Srt textD where
  al := fun x y => by
    unfold textD tupI
    simp only [PySem.W.alike, PySem.W.alikeAll, alike_ints]
    rfl
  tu := fun x => ⟨_, _, rfl⟩
  dp := fun x => by
    show max 0 (max (PyData.depthAll (x.body.map .int) + 1) 0) + 1 ≤ 60
    rw [depth_ints]; decide
  cl := fun x => by
    show (true && (PyData.canLayAll0 (x.body.map .int) && true)) = true
    rw [lay_ints]; rfl
def waitD (p : Text × Int) : PyData := .tuple [textD p.1, .int p.2]
structure HostSt where
  waiting : List (Text × Int)
  used : List Int
def ruleAt (N : Net) (h : Int) : Rule := (allRules N).getD h.toNat []
def hostF {K : PySem.W.Frag} (N : Net) (h : Int) (st : HostSt) : List (Str × Sl K) := [("net", .da (netD N)), ("host", .da (.int h)), ("rule", .da (ruleD (ruleAt N h))), ("waiting", .ow (mlA K (st.waiting.map waitD))), ("used", .ow (mlA K (st.used.map .int)))]
structure HostOk (N : Net) (h : Int) : Prop where
  net : NetOk N
  h0 : 0 ≤ h
  hn : h < hostCount N
inductive R_Host___init__ {K : PySem.W.Frag} : MRel K
  | mk {N : Net} {h : Int} : HostOk N h → R_Host___init__ [] [netD N, .int h] .none (hostF N h ⟨[], []⟩)
theorem d_Host___init__ (T : Txt K mg) (h_rule_by : DefOk P w K mg base "rule_by" ["net", "host"] 1 R_rule_by) : InitOk P w K mg base T.k_Host.C ["self", "net", "host"] 2 (spM K T.k_Host.C R_Host___init__) :=
  T.e_Host___init__.ok sc_Host___init__ (by intro fs ds r fs' h; cases h <;> rfl) fun f cdv Ar outer s H E hr => ⟨_, (pss_cons (k_sfld (K := K) (pv 0) (pv 1))
  (pss_cons (k_sfld (K := K) (pv 0) (pv 2))
  (pss_cons (k_sfld (K := K) (pv 0) (pe_callD h_rule_by (hr.mono (by decide)) (by rfl) passL (pa_cons (pv 1) (pa_cons (pv 2) pa_nil))))
  (pss_cons (k_sfld (K := K) (pv 0) (pe_lst pa_nil))
  (pss_one (k_sfld (K := K) (pv 0) (pe_lst pa_nil))))))), fun xo fs ds r fs' hR => by
    cases hR with
    | @mk N h hh =>
      exact mb_nx (show SD K E _ [.ow (insA K (some xo) T.k_Host.C []), .da (netD N), .da (.int h)] _ from (sd_seq (sd_sfld (pl_var rfl) T.k_Host.f.cl (T.k_Host.na (f := "net") (by decide)) (ev_da (ED.to (ed_var rfl) (by rfl))) (Nat.le_of_ble_eq_true rfl))
  (sd_seq (sd_sfld (pl_var rfl) T.k_Host.f.cl (T.k_Host.na (f := "host") (by decide)) (ev_da (ED.to (ed_var rfl) (by rfl))) (Nat.le_of_ble_eq_true rfl))
  (sd_seq (sd_sfld (pl_var rfl) T.k_Host.f.cl (T.k_Host.na (f := "rule") (by decide)) (ev_da (ED.to (ed_call (eda_cons (ed_var rfl) (eda_cons (ed_var rfl) eda_nil)) (R_rule_by.mk hh.net hh.h0 hh.hn)) (by rfl))) (Nat.le_of_ble_eq_true rfl))
  (sd_seq (sd_sfld (pl_var rfl) T.k_Host.f.cl (T.k_Host.na (f := "waiting") (by decide)) (ev_ow (eo_lst eda_nil)) (Nat.le_of_ble_eq_true rfl))
  (sd_sfld (pl_var rfl) T.k_Host.f.cl (T.k_Host.na (f := "used") (by decide)) (ev_ow (eo_lst eda_nil)) (Nat.le_of_ble_eq_true rfl))))))) (by rfl)⟩
def leaveW (st : HostSt) (tick : Int) (texts : List Text) : List (Text × Int) := st.waiting ++ (sortBy textD texts).map fun t => (t, tick)
def oldestOf (w : List (Text × Int)) (tick : Int) : Int := match w with | [] => 0 | p :: _ => tick - p.2
def leaveN (N : Net) (h : Int) (st : HostSt) (tick : Int) (texts : List Text) : Int := sentBy (ruleAt N h) ((leaveW st tick texts).length : Int) (oldestOf (leaveW st tick texts) tick) tick
def leaveT (N : Net) (h : Int) (st : HostSt) (tick : Int) (texts : List Text) : List Text := ((leaveW st tick texts).take (leaveN N h st tick texts).toNat).map (·.1)
def leaveS (N : Net) (h : Int) (st : HostSt) (tick : Int) (texts : List Text) : HostSt := ⟨(leaveW st tick texts).drop (leaveN N h st tick texts).toNat, st.used⟩
theorem rule_ok {N : Net} {h : Int} (hh : HostOk N h) : ruleOk (ruleAt N h) = true := by
  obtain ⟨e1, e2⟩ := rules_len hh.net
  have := hh.h0; have := hh.hn
  have hm : ruleAt N h ∈ allRules N := getD_mem (by omega)
  obtain ⟨s, hs, hr⟩ := List.mem_flatMap.mp hm
  exact hh.net.ru s hs _ hr
theorem sent_nn {w o t : Int} (hw : 0 ≤ w) : ∀ {r : Rule}, (∀ p ∈ r, rrowOk p = true) → 0 ≤ sentBy r w o t ∧ sentBy r w o t ≤ w
  | [], _ => by unfold sentBy; omega
  | p :: r, h => by
    unfold sentBy
    split
    · have h1 := h p List.mem_cons_self
      unfold rrowOk at h1
      simp at h1
      unfold sentV
      split
      · omega
      · rw [Int.min_def]; split <;> omega
    · exact sent_nn hw fun q hq => h q (List.mem_cons_of_mem _ hq)
theorem leaveN_in {N : Net} {h : Int} (hh : HostOk N h) (st : HostSt) (tick : Int) (texts : List Text) : 0 ≤ leaveN N h st tick texts ∧ leaveN N h st tick texts ≤ (leaveW st tick texts).length :=
  sent_nn (by omega) (ruleOk_at (rule_ok hh)).2.2
inductive R_Host_leaving {K : PySem.W.Frag} : MRel K
  | mk {N : Net} {h : Int} {st : HostSt} {tick : Int} {texts : List Text} : HostOk N h → st.waiting.length + texts.length ≤ 100000 →
      R_Host_leaving (hostF N h st) [.int tick, .list (texts.map textD)] (.list ((leaveT N h st tick texts).map textD)) (hostF N h (leaveS N h st tick texts))
theorem sortBy_len {α : Type} (f : α → PyData) (xs : List α) : (sortBy f xs).length = xs.length := (sortBy_perm f xs).length_eq
theorem leaveW_map (st : HostSt) (tick : Int) (texts : List Text) : st.waiting.map waitD ++ (sortBy textD texts).map (fun t => PyData.tuple [textD t, .int tick]) = (leaveW st tick texts).map waitD := by
  unfold leaveW
  rw [List.map_append, List.map_map]; rfl
def hd0 (w : List (Text × Int)) : Text × Int := w.headD (⟨0, []⟩, 0)
theorem wait_ix {w : List (Text × Int)} (h : (!(w.map waitD).isEmpty) = true) : ixN (w.map waitD).length 0 = some 0 ∧ (w.map waitD)[0]? = some (waitD (hd0 w)) ∧ ∀ tick, oldestOf w tick = tick - (hd0 w).2 := by
  cases w with
  | nil => cases h
  | cons p r => exact ⟨ixN_nat (j := 0) (by simp), rfl, fun _ => rfl⟩
theorem wait_nil {w : List (Text × Int)} (h : (!(w.map waitD).isEmpty) = false) (tick : Int) : oldestOf w tick = 0 := by
  cases w with
  | nil => rfl
  | cons p r => cases h
theorem d_Host_leaving (T : Txt K mg) (h_sent_by : DefOk P w K mg base "sent_by" ["rule", "waiting", "oldest", "tick"] 2 R_sent_by) : MethOk P w K mg base T.k_Host.C "leaving" ["self", "tick", "texts"] 3 (spM K T.k_Host.C R_Host_leaving) :=
  T.e_Host_leaving.ok sc_Host_leaving (by intro fs ds r fs' h; cases h <;> rfl) fun f cdv Ar outer s H E hr => ⟨_, (pss_cons (ps_expr (pe_bm PySem.F.plainAttrs_list PySem.F.slot_list_extend PySem.F.type_list_extend mt_extend (k_fld (K := K) (pv 0)) (pa_cons (pe_lc (own := [("text", 6)]) (g := (gName 6)) (tt := tYes) rfl sc_Host_leaving.nd (k_list (K := K) (pe_callB (k_sortD (K := K) hr.units) (by rfl) T.b_sorted (by decide +kernel) (pa_cons (pv 2) pa_nil))) (blkOk_by (N := N_Host_leaving) (sc := defScope st_Host_leaving) (by decide +kernel)) (fun _ _ _ _ _ => (pg_name (i := 6) sc_Host_leaving.nd rfl (.inl rfl))) (fun _ _ _ _ _ => pts_nil) (fun _ _ _ _ _ => (pe_tup (pa_cons (pv 6) (pa_cons (pv 1) pa_nil))))) pa_nil)))
  (pss_cons (ps_set (i := 3) sc_Host_leaving.nd rfl (.inl rfl) (pe_ifExp (k_truth (K := K) (k_fld (K := K) (pv 0))) (pe_op op_sub (pv 1) (pe_ix (k_ixT (K := K)) (pe_ix (k_ixL (K := K)) (k_fld (K := K) (pv 0)) pe_int (fun _ _ => rfl)) pe_int (fun _ _ => rfl))) pe_int))
  (pss_cons (ps_set (i := 4) sc_Host_leaving.nd rfl (.inl rfl) (pe_callD h_sent_by (hr.mono (by decide)) (by rfl) passL (pa_cons (k_fld (K := K) (pv 0)) (pa_cons (pe_callB (k_len (K := K)) (by rfl) T.b_len PySem.boot_len (pa_cons (k_fld (K := K) (pv 0)) pa_nil)) (pa_cons (pv 3) (pa_cons (pv 1) pa_nil))))))
  (pss_cons (ps_setLc (i := 5) (own := [("text", 6), ("_", 7)]) (g := (gTup K 2 (gCons (gName 6) (gCons (gName 7) gNil)))) (tt := tYes) rfl sc_Host_leaving.nd rfl rfl (sw_true rfl rfl rfl (by decide +kernel)) (k_list (K := K) (pe_slice (k_slL (K := K)) (k_fld (K := K) (pv 0)) po_none (po_some (pv 4)))) (blkOk_by (N := N_Host_leaving) (sc := defScope st_Host_leaving) (by decide +kernel)) (fun _ _ _ _ _ => (k_gtup (K := K) rfl (pgs_cons (pg_name (i := 6) sc_Host_leaving.nd rfl (.inl rfl)) (pgs_cons (pg_name (i := 7) sc_Host_leaving.nd rfl (.inl rfl)) pgs_nil)))) (fun _ _ _ _ _ => pts_nil) (fun _ _ _ _ _ => (pv 6)))
  (pss_cons (k_sfld (K := K) (pv 0) (pe_slice (k_slL (K := K)) (k_fld (K := K) (pv 0)) (po_some (pv 4)) po_none))
  (pss_one (ps_ret (pv 5)))))))), fun xo fs ds r fs' hR => by
    cases hR with
    | @mk N h st tick texts hh hl =>
      have hn := leaveN_in hh st tick texts
      have hLIM : LIM = 1000000 := rfl
      exact mb_rs (show SD K E _ [.ow (insA K (some xo) T.k_Host.C (hostF N h st)), .da (.int tick), .da (.list (texts.map textD)), .un, .un, .un, .un, .un] _ from (sd_seq (sd_extendQ (pl_fld (pl_var rfl) T.k_Host.f.cl (T.k_Host.na (f := "waiting") (by decide)) rfl) (ED.to (ed_lc_map (f := textD) (h := fun t => PyData.tuple [textD t, .int tick]) (it_list (ed_cb (eda_cons (ed_var rfl) eda_nil) (rc_sortm (by exact srt_text.sal _) (by exact srt_text.sso _) (by exact srt_text.sdp _) (by exact srt_text.scl _)))) (by rw [sortBy_len]; omega) (fun x hx => ⟨_, (gd_name (by decide)), ((ed_tup (eda_cons (ed_var rfl) (eda_cons (ed_var rfl) eda_nil)))).to (by rfl)⟩)) (by rfl)) (by rw [List.length_append, List.length_map, List.length_map, sortBy_len]; omega) (by exact leaveW_map st tick texts))
  (sd_seq (sd_set (ed_if (d := .int (oldestOf (leaveW st tick texts) tick)) (et_truO (pl_fld (pl_var rfl) T.k_Host.f.cl (T.k_Host.na (f := "waiting") (by decide)) rfl)) (fun hb => ((ed_sub (ed_var rfl) (ed_ixT (ed_ixO (pl_fld (pl_var rfl) T.k_Host.f.cl (T.k_Host.na (f := "waiting") (by decide)) rfl) ed_int (wait_ix hb).1 (wait_ix hb).2.1) ed_int rfl rfl))).to (by rw [(wait_ix hb).2.2])) (fun hb => (ed_int).to (by rw [wait_nil hb]))))
  (sd_seq (sd_set (ED.to (ed_call (eda_cons (ed_fldI (pl_var rfl) T.k_Host.f.cl (T.k_Host.na (f := "rule") (by decide)) rfl) (eda_cons (ed_lenO (pl_fld (pl_var rfl) T.k_Host.f.cl (T.k_Host.na (f := "waiting") (by decide)) rfl)) (eda_cons (ed_var rfl) (eda_cons (ed_var rfl) eda_nil)))) (R_sent_by.mk (rule_ok hh))) (by exact (show PyData.int _ = .int (leaveN N h st tick texts) by unfold leaveN; rw [List.length_map]))))
  (sd_seq (sd_set (ed_lc_map (f := waitD) (h := fun p => textD p.1) (it_list (ED.to (ed_slO (pl_fld (pl_var rfl) T.k_Host.f.cl (T.k_Host.na (f := "waiting") (by decide)) rfl) edo_none (edo_some (ed_var rfl))) (by exact (show PyData.list (cutD ((leaveW st tick texts).map waitD) none (some (leaveN N h st tick texts))) = .list (((leaveW st tick texts).take (leaveN N h st tick texts).toNat).map waitD) by rw [cutD_to _ hn.1, List.map_take])))) (by rw [List.length_take]; unfold leaveW; rw [List.length_append, List.length_map, sortBy_len]; omega) (fun x hx => ⟨_, (gd_tup (gd_cons (gd_name (by decide)) (gd_cons (gd_name (by decide)) gd_nil)) rfl), ((ed_var rfl)).to (by rfl)⟩)))
  (sd_seq (sd_sfld (pl_var rfl) T.k_Host.f.cl (T.k_Host.na (f := "waiting") (by decide)) (ev_ow (EO.to (eo_slO (pl_fld (pl_var rfl) T.k_Host.f.cl (T.k_Host.na (f := "waiting") (by decide)) rfl) (edo_some (ed_var rfl)) edo_none) (by exact (show mlA K (cutD ((leaveW st tick texts).map waitD) (some (leaveN N h st tick texts)) none) = mlA K ((leaveS N h st tick texts).waiting.map waitD) by rw [cutD_from _ hn.1, ← List.map_drop]; rfl)))) (Nat.le_of_ble_eq_true rfl))
  (sd_rets (ee_of (ED.to (ed_var rfl) (by unfold leaveT; rw [List.map_map]; rfl)))))))))) (by rfl)⟩
def padOf (s : Sec) (h : Int) (x : Text) : List Int := secGet s [0, h, x.tag]
def stageOf (N : Net) (h : Int) : Int := match stageBy N h with | .int i => i | _ => 0
abbrev Pl2 := Int × Int
def pl2D (p : Pl2) : PyData := .tuple [.int p.1, .int p.2]
def outD (o : Pl2 × Text) : PyData := .tuple [pl2D o.1, textD o.2]
def nextG (N : Net) (stage number : Int) : Option Pl2 :=
  if stage + 1 < N.st.length then (if number ∈ hostsBy N (stage + 1).toNat then some (0, number) else none) else (if number < N.n then some (1, number) else none)
theorem next_opt (N : Net) (stage number : Int) : nextPlace N stage number = optD pl2D (nextG N stage number) := by
  unfold nextPlace nextG
  split <;> split <;> rfl
def headNo (s : Sec) (h : Int) (x : Text) : Int := (plainOf (padOf s h x) x).getD 0 0
def sendG (N : Net) (h : Int) (s : Sec) (x : Text) : Option (Pl2 × Text) := (nextG N (stageOf N h) (headNo s h x)).map fun g => (g, peelText N (padOf s h x) x)
theorem stage_lt {h : Int} : ∀ {l : List (List Rule)} {k : Nat} {last : Int}, last ≤ h → h < last + (l.map fun s => (s.length : Int)).sum → ∃ i : Nat, ended ((l.zipIdx k).foldlM (stageT h) last) .none = .int (i : Int) ∧ i < k + l.length
  | [], k, last, h0, hl => by simp at hl; omega
  | s :: l, k, last, h0, hl => by
    rw [List.zipIdx_cons, List.foldlM_cons]
    by_cases e : h < last + (s.length : Int)
    · refine ⟨k, ?_, by simp⟩
      unfold stageT turn
      simp only [e, decide_true, if_true]
      rfl
    · have e' : stageT h last (s, k) = .ok (last + (s.length : Int)) := by unfold stageT turn; simp [e]
      rw [e']
      rw [List.map_cons, List.sum_cons] at hl
      obtain ⟨i, h1, h2⟩ := stage_lt (h := h) (l := l) (k := k + 1) (last := last + (s.length : Int)) (by omega) (by omega)
      exact ⟨i, h1, by simp; omega⟩
theorem stage_of {N : Net} {h : Int} (hh : HostOk N h) : stageBy N h = .int (stageOf N h) ∧ 0 ≤ stageOf N h ∧ stageOf N h < N.st.length := by
  have hn := hh.hn
  unfold hostCount at hn
  obtain ⟨i, h1, h2⟩ := stage_lt (h := h) (l := N.st) (k := 0) (last := 0) hh.h0 (by omega)
  have h3 : stageBy N h = .int (i : Int) := h1
  unfold stageOf
  rw [h3]
  exact ⟨rfl, by simp; omega⟩
inductive R_Host_sends {K : PySem.W.Frag} : MRel K
  | no {N : Net} {h : Int} {st : HostSt} {s : Sec} {x : Text} : HostOk N h → (¬ [0, h, x.tag] ∈ s.map (·.1) ∨ x.tag ∈ st.used) → R_Host_sends (hostF N h st) [secD s, textD x] .none (hostF N h st)
  | mk {N : Net} {h : Int} {st : HostSt} {s : Sec} {x : Text} : HostOk N h → SecOk N s → (x.body.length : Int) = longOf N → [0, h, x.tag] ∈ s.map (·.1) → ¬ x.tag ∈ st.used → st.used.length ≤ 100000 →
      R_Host_sends (hostF N h st) [secD s, textD x] (optD outD (sendG N h s x)) (hostF N h ⟨st.waiting, st.used ++ [x.tag]⟩)
theorem d_Host_sends (T : Txt K mg) (h_next_place : DefOk P w K mg base "next_place" ["net", "stage", "number"] 2 R_next_place) (h_peeled_by : DefOk P w K mg base "peeled_by" ["net", "pad", "text"] 2 R_peeled_by) (h_stage_by : DefOk P w K mg base "stage_by" ["net", "host"] 1 R_stage_by) : MethOk P w K mg base T.k_Host.C "sends" ["self", "secrets", "text"] 3 (spM K T.k_Host.C R_Host_sends) :=
  T.e_Host_sends.ok sc_Host_sends (by intro fs ds r fs' h; cases h <;> rfl) fun f cdv Ar outer s H E hr => ⟨_, (pss_cons (ps_set (i := 3) sc_Host_sends.nd rfl (.inl rfl) (pe_tup (pa_cons (pe_globI (by rfl) T.m_HOST) (pa_cons (k_fld (K := K) (pv 0)) (pa_cons (pe_ix (k_ixT (K := K)) (pv 2) pe_int (fun _ _ => rfl)) pa_nil)))))
  (pss_cons (ps_if (PW.pt (pw_or (pt_cmp (pc_dnotin (hu_of hr) (pv 3) (pv 1))) (pw_or1 (pt_cmpR (k_in (K := K)) (pe_ix (k_ixT (K := K)) (pv 2) pe_int (fun _ _ => rfl)) (k_fld (K := K) (pv 0)) (by with_unfolding_all rfl))))) (pss_one (ps_ret pe_non)) pss_nil)
  (pss_cons (ps_expr (pe_bm PySem.F.plainAttrs_list PySem.F.slot_list_append PySem.F.type_list_append mt_append (k_fld (K := K) (pv 0)) (pa_cons (pe_ix (k_ixT (K := K)) (pv 2) pe_int (fun _ _ => rfl)) pa_nil)))
  (pss_cons (ps_asg (pe_callD h_peeled_by (hr.mono (by decide)) (by rfl) passL (pa_cons (k_fld (K := K) (pv 0)) (pa_cons (pe_dget (hu_of hr) (pv 1) (pv 3) (fun _ _ => rfl)) (pa_cons (pv 2) pa_nil)))) (k_gtup (K := K) rfl (pgs_cons (pg_name (i := 4) sc_Host_sends.nd rfl (.inl rfl)) (pgs_cons (pg_name (i := 5) sc_Host_sends.nd rfl (.inl rfl)) pgs_nil))))
  (pss_cons (ps_set (i := 6) sc_Host_sends.nd rfl (.inl rfl) (pe_callD h_next_place (hr.mono (by decide)) (by rfl) passL (pa_cons (k_fld (K := K) (pv 0)) (pa_cons (pe_callD h_stage_by (hr.mono (by decide)) (by rfl) passL (pa_cons (k_fld (K := K) (pv 0)) (pa_cons (k_fld (K := K) (pv 0)) pa_nil))) (pa_cons (pv 4) pa_nil)))))
  (pss_one (ps_ret (pe_ifExp (pt_cmpR op_isN (pv 6) pe_non (nomark _)) pe_non (pe_tup (pa_cons (pv 6) (pa_cons (pv 5) pa_nil))))))))))), fun xo fs ds r fs' hR => by
    cases hR with
    | @no N h st s x hh hno =>
      exact mb_rs (show SD K E _ [.ow (insA K (some xo) T.k_Host.C (hostF N h st)), .da (secD s), .da (textD x), .un, .un, .un, .un] _ from (sd_seq (sd_set (ed_tup (eda_cons ed_int (eda_cons (ed_fldI (pl_var rfl) T.k_Host.f.cl (T.k_Host.na (f := "host") (by decide)) rfl) (eda_cons (ed_ixT (ed_var rfl) ed_int rfl rfl) eda_nil)))))
  (sd_ifs (b := true) (ET.to (et_or (et_val (ed_dnotinT (ed_var rfl) (ED.to (ed_var rfl) (show _ = (tkD ([0, h, x.tag].map Sum.inl)) from (tkD_tupI [0, h, x.tag]).symm)))) (fun hb => (et_cmp (ed_inO (ed_ixT (ed_var rfl) ed_int rfl rfl) (pl_fld (pl_var rfl) T.k_Host.f.cl (T.k_Host.na (f := "used") (by decide)) rfl))))) (by exact hno.elim (fun z => by rw [find_none z]; rfl) (fun z => by simp [z]))) (fun hb => (sd_rets (ee_of (ED.to ed_non (by rfl))))) (fun hb => Bool.noConfusion hb)))) (by rfl)
    | @mk N h st s x hh hs hbl hin hus hul =>
      exact mb_rs (show SD K E _ [.ow (insA K (some xo) T.k_Host.C (hostF N h st)), .da (secD s), .da (textD x), .un, .un, .un, .un] _ from (sd_seq (sd_set (ed_tup (eda_cons ed_int (eda_cons (ed_fldI (pl_var rfl) T.k_Host.f.cl (T.k_Host.na (f := "host") (by decide)) rfl) (eda_cons (ed_ixT (ed_var rfl) ed_int rfl rfl) eda_nil)))))
  (sd_ifs (b := false) (ET.to (et_or (et_val (ed_dnotinT (ed_var rfl) (ED.to (ed_var rfl) (show _ = (tkD ([0, h, x.tag].map Sum.inl)) from (tkD_tupI [0, h, x.tag]).symm)))) (fun hb => (et_cmp (ed_inO (ed_ixT (ed_var rfl) ed_int rfl rfl) (pl_fld (pl_var rfl) T.k_Host.f.cl (T.k_Host.na (f := "used") (by decide)) rfl))))) (by rw [find_sec hin]; simp [hus])) (fun hb => Bool.noConfusion hb) (fun hb => (sd_nexts (sd_seq (sd_appendQ (pl_fld (pl_var rfl) T.k_Host.f.cl (T.k_Host.na (f := "used") (by decide)) rfl) (ed_ixT (ed_var rfl) ed_int rfl rfl) (by rw [List.length_map]; have : LIM = 1000000 := rfl; omega) (by exact (show st.used.map PyData.int ++ [.int x.tag] = (st.used ++ [x.tag]).map .int by rw [List.map_append]; rfl)))
  (sd_seq (sd_asg (ed_call (eda_cons (ed_fldI (pl_var rfl) T.k_Host.f.cl (T.k_Host.na (f := "net") (by decide)) rfl) (eda_cons (ed_dgetT (ed_var rfl) (ED.to (ed_var rfl) (show _ = (tkD ([0, h, x.tag].map Sum.inl)) from (tkD_tupI [0, h, x.tag]).symm)) (by exact (secGet_mem hin).2)) (eda_cons (ed_var rfl) eda_nil))) (R_peeled_by.mk hh.net (hs.ln _ (secGet_mem hin).1) hbl)) (gs_tup (gs_cons gs_name (gs_cons gs_name gs_nil)) rfl))
  (sd_seq (sd_set (ed_call (eda_cons (ed_fldI (pl_var rfl) T.k_Host.f.cl (T.k_Host.na (f := "net") (by decide)) rfl) (eda_cons (ed_call (eda_cons (ed_fldI (pl_var rfl) T.k_Host.f.cl (T.k_Host.na (f := "net") (by decide)) rfl) (eda_cons (ed_fldI (pl_var rfl) T.k_Host.f.cl (T.k_Host.na (f := "host") (by decide)) rfl) eda_nil)) (show R_stage_by [netD N, .int h] (.val (.int (stageOf N h))) by rw [← (stage_of hh).1]; exact R_stage_by.mk)) (eda_cons (ed_var rfl) eda_nil))) (show R_next_place [netD N, .int (stageOf N h), .int (headNo s h x)] (.val (optD pl2D (nextG N (stageOf N h) (headNo s h x)))) by rw [← next_opt]; exact R_next_place.mk hh.net (stage_of hh).2.1)))
  (sd_rets (ee_of (ED.to (ed_if (d := optD outD (sendG N h s x)) (et_cmp (ed_isNo (fun _ => ⟨_, rfl⟩) (ed_var rfl) ed_non)) (fun hb => (ed_non).to (by unfold sendG; rw [Option.isNone_iff_eq_none.mp hb]; rfl)) (fun hb => ((ed_tup (eda_cons (ed_var rfl) (eda_cons (ed_var rfl) eda_nil)))).to (by unfold sendG padOf; cases hg : nextG N (stageOf N h) (headNo s h x) with | none => rw [hg] at hb; cases hb | some g => rfl))) (by rfl)))))))))))) (by rfl)⟩
theorem alike_cons {x y : PyData} {xs ys : List PyData} (h : PySem.W.alike x y = true) (h2 : PySem.W.alikeAll xs ys = true) : PySem.W.alikeAll (x :: xs) (y :: ys) = true := by rw [PySem.W.alikeAll, h, h2]; rfl
theorem alike_tup {xs ys : List PyData} (h : PySem.W.alikeAll xs ys = true) : PySem.W.alike (.tuple xs) (.tuple ys) = true := by rw [PySem.W.alike]; exact h
theorem alike_nil : PySem.W.alikeAll [] [] = true := by rw [PySem.W.alikeAll]
theorem alike_pl (x y : Pl2) : PySem.W.alike (pl2D x) (pl2D y) = true := alike_tup (alike_ints [x.1, x.2] [y.1, y.2])
theorem srt_out : Srt outD where
  al := fun x y => alike_tup (alike_cons (alike_pl _ _) (alike_cons (srt_text.al _ _) alike_nil))
  tu := fun x => ⟨_, _, rfl⟩
  dp := fun x => by
    show max 1 (max (max 0 (max (PyData.depthAll (x.2.body.map .int) + 1) 0) + 1) 0) + 1 ≤ 60
    rw [depth_ints]; decide
  cl := fun x => by
    show (true && ((textD x.2).canLay0 && true)) = true
    rw [srt_text.cl]; rfl
inductive R_spoilt : List PyData → Res → Prop
  | mk {N : Net} {outs : List (Pl2 × Text)} {k : PyData} : R_spoilt [netD N, .list (outs.map outD), .list [], k] (.val (.list ((sortBy outD outs).map outD)))
theorem d_spoilt (T : Txt K mg) : DefOk P w K mg base "spoilt" ["net", "outs", "faults", "kept"] 1 R_spoilt :=
  T.d_spoilt.ok sc_spoilt (by decide) (by intro ds r h; cases h <;> rfl) fun f cdv Ar outer s H E hr => ⟨_, (pss_cons (ps_for PW0 rfl (k_list (K := K) (pv 2)) (k_gtup (K := K) rfl (pgs_cons (pg_name (i := 4) sc_spoilt.nd rfl (.inl rfl)) (pgs_cons (pg_name (i := 4) sc_spoilt.nd rfl (.inl rfl)) (pgs_cons (pg_name (i := 5) sc_spoilt.nd rfl (.inl rfl)) (pgs_cons (pg_name (i := 6) sc_spoilt.nd rfl (.inl rfl)) pgs_nil))))) (pss_one (ps_if (pt_cmpR op_eq (pv 5) pe_str (nomark _)) (pss_cons (ps_expr (pe_bm PySem.F.plainAttrs_list PySem.F.slot_list_extend PySem.F.type_list_extend mt_extend (pv 3) (pa_cons (pv 1) pa_nil)))
  (pss_one (ps_set (i := 1) sc_spoilt.nd rfl (.inl rfl) (pe_lst pa_nil)))) (pss_one (ps_if (pt_cmpR op_eq (pv 5) pe_str (nomark _)) (pss_cons (ps_set (i := 7) sc_spoilt.nd rfl (.inl rfl) (pe_ifExp (k_truth (K := K) (pv 1)) (pe_ix (k_ixT (K := K)) (pe_ix (k_ixL (K := K)) (pv 1) pe_int (fun _ _ => rfl)) pe_int (fun _ _ => rfl)) pe_non))
  (pss_one (ps_if (pt_cmpR op_notN (pv 7) pe_non (nomark _)) (pss_one (ps_set (i := 1) sc_spoilt.nd rfl (.inl rfl) (pe_op op_cat (pv 1) (pe_lst (pa_cons (pe_tup (pa_cons (pv 7) (pa_cons (pe_tup (pa_cons (pv 6) (pa_cons (k_rev (K := K) (pe_ix (k_ixT (K := K)) (pe_ix (k_ixT (K := K)) (pe_ix (k_ixL (K := K)) (pv 1) pe_int (fun _ _ => rfl)) pe_int (fun _ _ => rfl)) pe_int (fun _ _ => rfl))) pa_nil))) pa_nil))) pa_nil))))) pss_nil))) (pss_one (ps_if (pt_cmpR op_lt (pv 6) (pe_callB (k_len (K := K)) (by rfl) T.b_len PySem.boot_len (pa_cons (pv 1) pa_nil)) (nomark _)) (pss_cons (ps_asg (pe_ix (k_ixL (K := K)) (pv 1) (pv 6) (fun _ _ => rfl)) (k_gtup (K := K) rfl (pgs_cons (pg_name (i := 7) sc_spoilt.nd rfl (.inl rfl)) (pgs_cons (pg_name (i := 8) sc_spoilt.nd rfl (.inl rfl)) pgs_nil))))
  (pss_cons (ps_set (i := 9) sc_spoilt.nd rfl (.inl rfl) (pe_ifExp (pt_cmpR op_eq (pv 5) pe_str (nomark _)) (pe_lst pa_nil) (pe_lst (pa_cons (pe_tup (pa_cons (pv 7) (pa_cons (pe_tup (pa_cons (pe_ix (k_ixT (K := K)) (pv 8) pe_int (fun _ _ => rfl)) (pa_cons (pe_op (k_catT (K := K)) (pe_tup (pa_cons (pe_op op_mod (pe_op op_add (pe_ix (k_ixT (K := K)) (pe_ix (k_ixT (K := K)) (pv 8) pe_int (fun _ _ => rfl)) pe_int (fun _ _ => rfl)) pe_int) (pe_globI (by rfl) T.m_MOD)) pa_nil)) (pe_slice (k_slT (K := K)) (pe_ix (k_ixT (K := K)) (pv 8) pe_int (fun _ _ => rfl)) (po_some pe_int) po_none)) pa_nil))) pa_nil))) pa_nil))))
  (pss_one (ps_set (i := 1) sc_spoilt.nd rfl (.inl rfl) (pe_op op_cat (pe_op op_cat (pe_slice (k_slL (K := K)) (pv 1) po_none (po_some (pv 6))) (pv 9)) (pe_slice (k_slL (K := K)) (pv 1) (po_some (pe_op op_add (pv 6) pe_int)) po_none)))))) pss_nil)))))))
  (pss_one (ps_ret (pe_callB (k_sortD (K := K) hr.units) (by rfl) T.b_sorted (by decide +kernel) (pa_cons (pv 1) pa_nil))))), fun ds r hR => by
    cases hR with
    | @mk N outs k =>
      exact .inl (show SD K E _ [.da (netD N), .da (.list (outs.map outD)), .da (.list []), .da k, .un, .un, .un, .un, .un, .un] _ from (sd_seq (sd_for (S := fun _ : Unit => [.da (netD N), .da (.list (outs.map outD)), .da (.list []), .da k, .un, .un, .un, .un, .un, .un]) (step := fun _ _ => ()) (b0 := ()) (f := faultD) (xs := []) (it_list (ed_var rfl)) (by walk_at "le") (fun pre post x hx => absurd hx (by simp))) (sd_ret (ed_cb (eda_cons (ed_var rfl) eda_nil) (rc_sortm (srt_out.sal _) (srt_out.sso _) (srt_out.sdp _) (srt_out.scl _))))))⟩
structure Line where
  src : Pl2
  goal : Pl2
  x : Text
def lineD (l : Line) : PyData := .tuple [pl2D l.src, pl2D l.goal, textD l.x]
theorem srt_line : Srt lineD where
  al := fun x y => alike_tup (alike_cons (alike_pl _ _) (alike_cons (alike_pl _ _) (alike_cons (srt_text.al _ _) alike_nil)))
  tu := fun x => ⟨_, _, rfl⟩
  dp := fun x => by
    show max 1 (max 1 (max (max 0 (max (PyData.depthAll (x.x.body.map .int) + 1) 0) + 1) 0)) + 1 ≤ 60
    rw [depth_ints]; decide
  cl := fun x => by
    show (true && (true && ((textD x.x).canLay0 && true))) = true
    rw [srt_text.cl]; rfl
structure Batch where
  t : Int
  h : Int
  gone : List Text
  outs : List (Pl2 × Text)
def batchD (b : Batch) : PyData := .tuple [.int b.t, .int b.h, .tuple (b.gone.map textD), .tuple (b.outs.map outD)]
structure Lett where
  t : Int
  p : Int
  x : Text
def letD (l : Lett) : PyData := .tuple [.int l.t, .int l.p, textD l.x]
structure RunSt where
  hosts : List HostSt
  coming : List Line
  lines : List (List Line)
  batches : List Batch
  letters : List Lett
def linesD (l : List Line) : PyData := .tuple (l.map lineD)
def hostS {K : PySem.W.Frag} (CH : Addr) (N : Net) (p : HostSt × Nat) : Sl K := .ow (insA K none CH (hostF N (p.2 : Int) p.1))
def runG {K : PySem.W.Frag} (N : Net) (s : Sec) (ps : List Posting) (hs : List (Sl K)) (coming : List Line) (lines : List (List Line)) (batches : List Batch) (letters : List Lett) : List (Str × Sl K) := [("net", .da (netD N)), ("secrets", .da (secD s)), ("postings", .da (postsD ps)), ("faults", .da (faultsD [])), ("hosts", .ow (lsA K hs)), ("coming", .da (.list (coming.map lineD))),
  ("lines", .ow (mlA K (lines.map linesD))), ("batches", .ow (mlA K (batches.map batchD))), ("letters", .ow (mlA K (letters.map letD))), ("kept", .da (.list []))]
def runF {K : PySem.W.Frag} (CH : Addr) (N : Net) (s : Sec) (ps : List Posting) (st : RunSt) : List (Str × Sl K) := runG N s ps (st.hosts.zipIdx.map (hostS CH N)) st.coming st.lines st.batches st.letters
def run0 (N : Net) : RunSt := ⟨List.replicate (hostCount N).toNat ⟨[], []⟩, [], [], [], []⟩
theorem count_in {N : Net} (h : NetOk N) : 0 ≤ hostCount N ∧ hostCount N ≤ 9 := by
  have h3 := h.s3
  have e : ∀ l : List (List Rule), (∀ s ∈ l, s.length ≤ 3) → 0 ≤ (l.map fun s => (s.length : Int)).sum ∧ (l.map fun s => (s.length : Int)).sum ≤ 3 * (l.length : Int) := by
    intro l
    induction l with
    | nil => intro _; simp
    | cons s l ih =>
      intro hl
      have h1 := hl s List.mem_cons_self
      have h2 := ih fun y hy => hl y (List.mem_cons_of_mem _ hy)
      simp only [List.map_cons, List.sum_cons, List.length_cons]
      omega
  have := e N.st h.h3
  unfold hostCount
  omega
theorem hosts0 {K : PySem.W.Frag} (CH : Addr) (N : Net) (n : Nat) : ((rng 0 n).map fun h => (Sl.ow (insA K none CH (hostF N h ⟨[], []⟩)) : Sl K)) = (List.replicate n (⟨[], []⟩ : HostSt)).zipIdx.map (hostS CH N) := by
  apply List.ext_getElem?
  intro i
  unfold rng hostS
  rw [List.getElem?_map, List.getElem?_map, List.getElem?_map, List.getElem?_zipIdx]
  by_cases hi : i < n
  · rw [List.getElem?_range hi, List.getElem?_replicate, if_pos hi]
    simp
  · rw [List.getElem?_eq_none (by simpa using Nat.le_of_not_lt hi), List.getElem?_replicate, if_neg hi]
    rfl
inductive R_Run___init__ {K : PySem.W.Frag} (CH : Addr) : MRel K
  | mk {N : Net} {s : Sec} {ps : List Posting} : NetOk N → SecOk N s → (s.map (·.1)).Nodup → R_Run___init__ CH [] [netD N, secD s, postsD ps, faultsD []] .none (runF CH N s ps (run0 N))
theorem place_key {N : Net} (hN : NetOk N) {p : List Int} (h : PlaceOk N p) : PlK (p.map Sum.inl) := by
  have hc := count_in hN
  have h6 := hN.n6
  cases h with
  | @host a t h0 h1 h2 h3 => exact ⟨0, a.toNat, t.toNat, by rw [Int.toNat_of_nonneg h0, Int.toNat_of_nonneg h2]; rfl, by decide, by omega, by omega⟩
  | @person a t h0 h1 h2 h3 => exact ⟨1, a.toNat, t.toNat, by rw [Int.toNat_of_nonneg h0, Int.toNat_of_nonneg h2]; rfl, by decide, by omega, by omega⟩
theorem sec_apart {w : World} {N : Net} (hN : NetOk N) {s : Sec} (h : SecOk N s) (hn : (s.map (·.1)).Nodup) : ((secK s).map fun p => hashK w p.1).Nodup := by
  have e : ((secK s).map fun p => hashK w p.1) = ((s.map (·.1)).map fun p => p.map Sum.inl).map (hashK w) := by unfold secK; rw [List.map_map, List.map_map, List.map_map]; rfl
  rw [e]
  refine hashes_apart ?_ fun k hk => ?_
  · rw [List.nodup_iff_pairwise_ne] at hn ⊢
    rw [List.pairwise_map]
    exact List.Pairwise.imp (fun hne e => hne (inl_inj e)) hn
  · obtain ⟨p, hp, rfl⟩ := List.mem_map.mp hk
    obtain ⟨q, hq, rfl⟩ := List.mem_map.mp hp
    exact place_key hN (h.pl q hq)
theorem d_Run___init__ (T : Txt K mg) (h_Host___init__ : InitOk P w K mg base T.k_Host.C ["self", "net", "host"] 2 (spM K T.k_Host.C R_Host___init__)) (h_host_count : DefOk P w K mg base "host_count" ["net"] 1 R_host_count) : InitOk P w K mg base T.k_Run.C ["self", "net", "secrets", "postings", "faults"] 4 (spM K T.k_Run.C (R_Run___init__ (K := K) T.k_Host.C)) :=
  T.e_Run___init__.ok sc_Run___init__ (by intro fs ds r fs' h; cases h <;> rfl) fun f cdv Ar outer s H E hr => ⟨_, (pss_cons (k_sfld (K := K) (pv 0) (pv 1))
  (pss_cons (k_sfld (K := K) (pv 0) (pe_frz (pe_callTy (k_dictT (w := w) hr.units) (by rfl) T.b_dict (by decide +kernel) (pa_cons (pv 2) pa_nil))))
  (pss_cons (k_sfld (K := K) (pv 0) (pv 3))
  (pss_cons (k_sfld (K := K) (pv 0) (pv 4))
  (pss_cons (k_sfld (K := K) (pv 0) (pe_lc (own := [("host", 5)]) (g := (gName 5)) (tt := tYes) rfl sc_Run___init__.nd (pi_range1 (by rfl) T.b_range (pa_cons (pe_callD h_host_count (hr.mono (by decide)) (by rfl) passL (pa_cons (pv 1) pa_nil)) pa_nil)) (blkOk_by (N := N_Run___init__) (sc := defScope st_Run___init__) (by decide +kernel)) (fun _ _ _ _ _ => (pg_name (i := 5) sc_Run___init__.nd rfl (.inl rfl))) (fun _ _ _ _ _ => pts_nil) (fun _ _ _ _ _ => (pe_makeD h_Host___init__ (hr.mono (by decide)) (by rfl) T.k_Host.f.g passL (pa_cons (pv 1) (pa_cons (pv 5) pa_nil))))))
  (pss_cons (k_sfld (K := K) (pv 0) (pe_lst pa_nil))
  (pss_cons (k_sfld (K := K) (pv 0) (pe_lst pa_nil))
  (pss_cons (k_sfld (K := K) (pv 0) (pe_lst pa_nil))
  (pss_cons (k_sfld (K := K) (pv 0) (pe_lst pa_nil))
  (pss_one (k_sfld (K := K) (pv 0) (pe_lst pa_nil)))))))))))), fun xo fs ds r fs' hR => by
    cases hR with
    | @mk N s0 ps hN hs hnd =>
      have hc := count_in hN
      exact mb_nx (show SD K E _ [.ow (insA K (some xo) T.k_Run.C []), .da (netD N), .da (secD s0), .da (postsD ps), .da (faultsD []), .un] _ from (sd_seq (sd_sfld (pl_var rfl) T.k_Run.f.cl (T.k_Run.na (f := "net") (by decide)) (ev_da (ED.to (ed_var rfl) (by rfl))) (Nat.le_of_ble_eq_true rfl))
  (sd_seq (sd_sfld (pl_var rfl) T.k_Run.f.cl (T.k_Run.na (f := "secrets") (by decide)) (ev_da (ED.to (ed_dictT (ed_var rfl) (by exact sec_apart hN hs hnd)) (by rfl))) (Nat.le_of_ble_eq_true rfl))
  (sd_seq (sd_sfld (pl_var rfl) T.k_Run.f.cl (T.k_Run.na (f := "postings") (by decide)) (ev_da (ED.to (ed_var rfl) (by rfl))) (Nat.le_of_ble_eq_true rfl))
  (sd_seq (sd_sfld (pl_var rfl) T.k_Run.f.cl (T.k_Run.na (f := "faults") (by decide)) (ev_da (ED.to (ed_var rfl) (by rfl))) (Nat.le_of_ble_eq_true rfl))
  (sd_seq (sd_sfld (pl_var rfl) T.k_Run.f.cl (T.k_Run.na (f := "hosts") (by decide)) (ev_ow (EO.to (eo_lc (f := .int) (xs := rng 0 (hostCount N).toNat) (A := fun h => insA K none T.k_Host.C (hostF N h ⟨[], []⟩)) (it_rng1 (eda_cons (ed_call (eda_cons (ed_var rfl) eda_nil) (R_host_count.mk hN)) eda_nil) (by omega) (by omega)) (by have : LIM = 1000000 := rfl; rw [rng_len]; omega) (fun x hx => ⟨_, (gd_name (by decide)), (eo_make (eda_cons (ed_var rfl) (eda_cons (ed_var rfl) eda_nil)) (R_Host___init__.mk ⟨hN, by have := k_rng hx; omega, by have := k_rng hx; omega⟩))⟩)) (by rw [hosts0]))) (Nat.le_of_ble_eq_true rfl))
  (sd_seq (sd_sfld (pl_var rfl) T.k_Run.f.cl (T.k_Run.na (f := "coming") (by decide)) (ev_da (ED.to (ed_lst eda_nil) (by rfl))) (Nat.le_of_ble_eq_true rfl))
  (sd_seq (sd_sfld (pl_var rfl) T.k_Run.f.cl (T.k_Run.na (f := "lines") (by decide)) (ev_ow (eo_lst eda_nil)) (Nat.le_of_ble_eq_true rfl))
  (sd_seq (sd_sfld (pl_var rfl) T.k_Run.f.cl (T.k_Run.na (f := "batches") (by decide)) (ev_ow (eo_lst eda_nil)) (Nat.le_of_ble_eq_true rfl))
  (sd_seq (sd_sfld (pl_var rfl) T.k_Run.f.cl (T.k_Run.na (f := "letters") (by decide)) (ev_ow (eo_lst eda_nil)) (Nat.le_of_ble_eq_true rfl))
  (sd_sfld (pl_var rfl) T.k_Run.f.cl (T.k_Run.na (f := "kept") (by decide)) (ev_da (ED.to (ed_lst eda_nil) (by rfl))) (Nat.le_of_ble_eq_true rfl)))))))))))) (by rfl)⟩
def postLine (p : Posting) : Line := ⟨(1, p.w), (0, p.h), p.x⟩
def postedAt (ps : List Posting) (tick : Int) : List Line := (ps.filter fun p => decide (p.t = tick)).map postLine
inductive R_Run_posted {K : PySem.W.Frag} (CH : Addr) : MRel K
  | mk {N : Net} {s : Sec} {ps : List Posting} {st : RunSt} {tick : Int} : ps.length ≤ 24 → R_Run_posted CH (runF CH N s ps st) [.int tick] (.list ((postedAt ps tick).map lineD)) (runF CH N s ps st)
theorem d_Run_posted (T : Txt K mg) : MethOk P w K mg base T.k_Run.C "posted" ["self", "tick"] 1 (spM K T.k_Run.C (R_Run_posted (K := K) T.k_Host.C)) :=
  T.e_Run_posted.ok sc_Run_posted (by intro fs ds r fs' h; cases h <;> rfl) fun f cdv Ar outer s H E hr => ⟨_, (pss_one (ps_ret (pe_lc (own := [("when", 2), ("writer", 3), ("host", 4), ("text", 5)]) (g := (gTup K 4 (gCons (gName 2) (gCons (gName 3) (gCons (gName 4) (gCons (gName 5) gNil)))))) rfl sc_Run_posted.nd (k_tup (K := K) (k_fld (K := K) (pv 0))) (blkOk_by (N := N_Run_posted) (sc := defScope st_Run_posted) (by decide +kernel)) (fun _ _ _ _ _ => (k_gtup (K := K) rfl (pgs_cons (pg_name (i := 2) sc_Run_posted.nd rfl (.inl rfl)) (pgs_cons (pg_name (i := 3) sc_Run_posted.nd rfl (.inl rfl)) (pgs_cons (pg_name (i := 4) sc_Run_posted.nd rfl (.inl rfl)) (pgs_cons (pg_name (i := 5) sc_Run_posted.nd rfl (.inl rfl)) pgs_nil)))))) (fun _ _ _ _ _ => (pts_one (pt_cmpR op_eq (pv 2) (pv 1) (nomark _)))) (fun _ _ _ _ _ => (pe_tup (pa_cons (pe_tup (pa_cons (pe_globI (by rfl) T.m_PERSON) (pa_cons (pv 3) pa_nil))) (pa_cons (pe_tup (pa_cons (pe_globI (by rfl) T.m_HOST) (pa_cons (pv 4) pa_nil))) (pa_cons (pv 5) pa_nil)))))))), fun xo fs ds r fs' hR => by
    cases hR with
    | @mk N s0 ps st tick hl =>
      exact mb_rs (show SD K E _ [.ow (insA K (some xo) T.k_Run.C (runF T.k_Host.C N s0 ps st)), .da (.int tick), .un, .un, .un, .un] _ from (sd_rets (ee_of (ED.to (ed_lc_filter (fun p => decide (p.t = tick)) (it_tup (ed_fldI (pl_var rfl) T.k_Run.f.cl (T.k_Run.na (f := "postings") (by decide)) rfl)) (by have : LIM = 1000000 := rfl; omega) (fun x hx => ⟨_, (gd_tup (gd_cons (gd_name (by decide)) (gd_cons (gd_name (by decide)) (gd_cons (gd_name (by decide)) (gd_cons (gd_name (by decide)) gd_nil)))) rfl), ((et_cmp (ed_eqI (ed_var rfl) (ed_var rfl)))).to (by rfl), fun hp => ((ed_tup (eda_cons (ed_tup (eda_cons ed_int (eda_cons (ed_var rfl) eda_nil))) (eda_cons (ed_tup (eda_cons ed_int (eda_cons (ed_var rfl) eda_nil))) (eda_cons (ed_var rfl) eda_nil))))).to (by rfl)⟩)) (by unfold postedAt; rw [List.map_map]; rfl))))) (by rfl)⟩
theorem eqv_pl (a b : Pl2) : PyData.eqv (pl2D a) (pl2D b) = decide (a = b) := by
  obtain ⟨a1, a2⟩ := a
  obtain ⟨b1, b2⟩ := b
  unfold pl2D
  simp [PyData.eqv, PyData.eqvAll, Prod.mk.injEq, Bool.decide_and]
  rfl
theorem shp_pl (a : Pl2) : SeqAt.shaped (pl2D a) = true := by
  have := shaped_tupm (f := PyData.int) (n := 0) (fun x => ⟨rfl, Nat.le_refl 0⟩) (by decide) [a.1, a.2]
  exact this
def textsTo (st : RunSt) (h : Int) : List Text := (st.coming.filter fun l => decide (l.goal = (0, h))).map (·.x)
def sendOne (N : Net) (h : Int) (s : Sec) (st : HostSt) (x : Text) : HostSt × Option (Pl2 × Text) :=
  if [0, h, x.tag] ∈ s.map (·.1) ∧ ¬ x.tag ∈ st.used then (⟨st.waiting, st.used ++ [x.tag]⟩, sendG N h s x) else (st, none)
def sendAll (N : Net) (h : Int) (s : Sec) (st : HostSt) (gone : List Text) : HostSt × List (Option (Pl2 × Text)) := gone.foldl (fun p x => ((sendOne N h s p.1 x).1, p.2 ++ [(sendOne N h s p.1 x).2])) (st, [])
def hostAt (st : RunSt) (h : Int) : HostSt := (st.hosts[h.toNat]?).getD ⟨[], []⟩
def goneAt (N : Net) (st : RunSt) (h tick : Int) : List Text := leaveT N h (hostAt st h) tick (textsTo st h)
def sentAt (N : Net) (s : Sec) (st : RunSt) (h tick : Int) : HostSt × List (Option (Pl2 × Text)) := sendAll N h s (leaveS N h (hostAt st h) tick (textsTo st h)) (goneAt N st h tick)
def outsAt (N : Net) (s : Sec) (st : RunSt) (h tick : Int) : List (Pl2 × Text) := sortBy outD (sortBy outD ((sentAt N s st h tick).2.filterMap id))
def batchAt (N : Net) (s : Sec) (st : RunSt) (h tick : Int) : List Batch :=
  if (!(goneAt N st h tick).isEmpty || !(outsAt N s st h tick).isEmpty) = true then st.batches ++ [⟨tick, h, goneAt N st h tick, outsAt N s st h tick⟩] else st.batches
def hostStepS (N : Net) (s : Sec) (st : RunSt) (h tick : Int) : RunSt := ⟨st.hosts.set h.toNat (sentAt N s st h tick).1, st.coming, st.lines, batchAt N s st h tick, st.letters⟩
def hostStepL (N : Net) (s : Sec) (st : RunSt) (h tick : Int) : List Line := (outsAt N s st h tick).map fun o => ⟨(0, h), o.1, o.2⟩
structure StepOk (N : Net) (s : Sec) (st : RunSt) (h : Int) : Prop where
  ho : HostOk N h
  sec : SecOk N s
  len : st.hosts.length = (hostCount N).toNat
  few : st.coming.length ≤ 1000
  bod : ∀ l ∈ st.coming, (l.x.body.length : Int) = longOf N
  wb : ∀ w ∈ (hostAt st h).waiting, (w.1.body.length : Int) = longOf N
  wl : (hostAt st h).waiting.length ≤ 80000
  ul : (hostAt st h).used.length ≤ 10000
  bl : st.batches.length ≤ 1000
theorem zip_set {α : Type} {xs : List α} {x : α} {i : Nat} : (xs.set i x).zipIdx = xs.zipIdx.set i (x, i) := by
  apply List.ext_getElem?
  intro j
  rw [List.getElem?_zipIdx, List.getElem?_set, List.getElem?_set, List.getElem?_zipIdx, List.length_zipIdx]
  by_cases h : i = j
  · subst h
    rw [if_pos rfl, if_pos rfl]
    split <;> simp
  · rw [if_neg h, if_neg h]
theorem set_hosts {K : PySem.W.Frag} {CH : Addr} {N : Net} {hs : List HostSt} {h : Int} (h0 : 0 ≤ h) (x : HostSt) : (hs.zipIdx.map (hostS (K := K) CH N)).set h.toNat (.ow (insA K none CH (hostF N h x))) = (hs.set h.toNat x).zipIdx.map (hostS CH N) := by
  rw [zip_set, List.map_set]
  unfold hostS
  rw [Int.toNat_of_nonneg h0]
theorem host_get {N : Net} {s : Sec} {st : RunSt} {h : Int} (o : StepOk N s st h) : st.hosts[h.toNat]? = some (hostAt st h) := by
  have h0 := o.ho.h0
  have h1 := o.ho.hn
  have : h.toNat < st.hosts.length := by rw [o.len]; omega
  unfold hostAt
  rw [List.getElem?_eq_getElem this]; rfl
theorem slot_get {K : PySem.W.Frag} {CH : Addr} {N : Net} {s : Sec} {st : RunSt} {h : Int} (o : StepOk N s st h) {hs : List HostSt} {y : HostSt} (hy : hs[h.toNat]? = some y) : (hs.zipIdx.map (hostS (K := K) CH N))[h.toNat]? = some (.ow (insA K none CH (hostF N h y))) := by
  rw [List.getElem?_map, List.getElem?_zipIdx, hy]
  unfold hostS
  simp [Int.toNat_of_nonneg o.ho.h0]
theorem ix_host {N : Net} {s : Sec} {st : RunSt} {h : Int} (o : StepOk N s st h) {n : Nat} (hn : n = (hostCount N).toNat) : ixN n h = some h.toNat := by
  have h0 := o.ho.h0
  have h1 := o.ho.hn
  have : ixN n ((h.toNat : Nat) : Int) = some h.toNat := ixN_nat (by omega)
  rwa [Int.toNat_of_nonneg h0] at this
inductive R_Run_host_step {K : PySem.W.Frag} (CH : Addr) : MRel K
  | mk {N : Net} {s : Sec} {ps : List Posting} {st : RunSt} {h tick : Int} : StepOk N s st h →
      R_Run_host_step CH (runF CH N s ps st) [.int h, .int tick] (.list ((hostStepL N s st h tick).map lineD)) (runF CH N s ps (hostStepS N s st h tick))
theorem send_rel {K : PySem.W.Frag} {N : Net} {h : Int} {s : Sec} {st : HostSt} {x : Text} (hh : HostOk N h) (hs : SecOk N s) (hb : (x.body.length : Int) = longOf N) (hu : st.used.length ≤ 100000) : R_Host_sends (K := K) (hostF N h st) [secD s, textD x] (optD outD (sendOne N h s st x).2) (hostF N h (sendOne N h s st x).1) := by
  unfold sendOne
  by_cases c : [0, h, x.tag] ∈ s.map (·.1) ∧ ¬ x.tag ∈ st.used
  · rw [if_pos c]
    exact .mk hh hs hb c.1 c.2 hu
  · rw [if_neg c]
    refine .no hh ?_
    by_cases c1 : [0, h, x.tag] ∈ s.map (·.1)
    · exact .inr (Classical.byContradiction fun c2 => c ⟨c1, c2⟩)
    · exact .inl c1
theorem send_used (N : Net) (h : Int) (s : Sec) : ∀ (l : List Text) (st : HostSt), (l.foldl (fun b x => (sendOne N h s b x).1) st).used.length ≤ st.used.length + l.length
  | [], st => by simp
  | x :: l, st => by
    have h1 := send_used N h s l (sendOne N h s st x).1
    have h2 : (sendOne N h s st x).1.used.length ≤ st.used.length + 1 := by
      unfold sendOne
      split <;> simp
    rw [List.foldl_cons, List.length_cons]
    omega
theorem all_fst (N : Net) (h : Int) (s : Sec) : ∀ (l : List Text) (p : HostSt × List (Option (Pl2 × Text))), (l.foldl (fun p x => ((sendOne N h s p.1 x).1, p.2 ++ [(sendOne N h s p.1 x).2])) p).1 = l.foldl (fun b x => (sendOne N h s b x).1) p.1
  | [], p => rfl
  | x :: l, p => by rw [List.foldl_cons, List.foldl_cons, all_fst N h s l]
theorem all_len (N : Net) (h : Int) (s : Sec) : ∀ (l : List Text) (p : HostSt × List (Option (Pl2 × Text))), (l.foldl (fun p x => ((sendOne N h s p.1 x).1, p.2 ++ [(sendOne N h s p.1 x).2])) p).2.length = p.2.length + l.length
  | [], p => rfl
  | x :: l, p => by rw [List.foldl_cons, all_len N h s l]; simp; omega
theorem all_map (N : Net) (h : Int) (s : Sec) : ∀ (l : List Text) (b : HostSt) (q : List (Option (Pl2 × Text))), (l.foldl (fun (p : HostSt × List PyData) x => ((sendOne N h s p.1 x).1, p.2 ++ [optD outD (sendOne N h s p.1 x).2])) (b, q.map (optD outD))).2 = (l.foldl (fun p x => ((sendOne N h s p.1 x).1, p.2 ++ [(sendOne N h s p.1 x).2])) (b, q)).2.map (optD outD)
  | [], b, q => rfl
  | x :: l, b, q => by
    rw [List.foldl_cons, List.foldl_cons]
    have := all_map N h s l (sendOne N h s b x).1 (q ++ [(sendOne N h s b x).2])
    rw [List.map_append] at this
    exact this
theorem filter_opt {α : Type} (f : α → PyData) : ∀ os : List (Option α), (os.filter fun o => !o.isNone).map (fun o => optD f o) = (os.filterMap id).map f
  | [] => rfl
  | none :: os => by rw [List.filter_cons_of_neg (by simp), List.filterMap_cons_none rfl, filter_opt f os]
  | some x :: os => by
    have ih := filter_opt f os
    have e1 : (some x :: os).filter (fun o => !o.isNone) = some x :: os.filter (fun o => !o.isNone) := rfl
    have e2 : (some x :: os).filterMap id = x :: os.filterMap id := rfl
    rw [e1, e2, List.map_cons, List.map_cons, ih]
    rfl
theorem sent_map (N : Net) (s : Sec) (st : RunSt) (h tick : Int) : PyData.list ((goneAt N st h tick).foldl (fun (p : HostSt × List PyData) x => ((sendOne N h s p.1 x).1, p.2 ++ [optD outD (sendOne N h s p.1 x).2])) (leaveS N h (hostAt st h) tick (textsTo st h), [])).2 = .list ((sentAt N s st h tick).2.map (optD outD)) := congrArg PyData.list (all_map N h s (goneAt N st h tick) (leaveS N h (hostAt st h) tick (textsTo st h)) [])
theorem sent_fst (N : Net) (s : Sec) (st : RunSt) (h tick : Int) : (goneAt N st h tick).foldl (fun b x => (sendOne N h s b x).1) (leaveS N h (hostAt st h) tick (textsTo st h)) = (sentAt N s st h tick).1 := (all_fst N h s (goneAt N st h tick) (leaveS N h (hostAt st h) tick (textsTo st h), [])).symm
theorem texts_len {st : RunSt} {h : Int} : (textsTo st h).length ≤ st.coming.length := by unfold textsTo; rw [List.length_map]; exact List.length_filter_le _ _
theorem leave_len {N : Net} {h tick : Int} {st : HostSt} {texts : List Text} : (leaveT N h st tick texts).length ≤ st.waiting.length + texts.length := by
  unfold leaveT leaveW
  rw [List.length_map, List.length_take, List.length_append, List.length_map, sortBy_len]
  omega
theorem gone_len {N : Net} {s : Sec} {st : RunSt} {h tick : Int} (o : StepOk N s st h) : (goneAt N st h tick).length ≤ 81000 := by
  have := o.wl; have := o.few
  have h1 := texts_len (st := st) (h := h)
  have h2 := leave_len (N := N) (h := h) (tick := tick) (st := hostAt st h) (texts := textsTo st h)
  unfold goneAt
  omega
theorem outs_len {N : Net} {s : Sec} {st : RunSt} {h tick : Int} (o : StepOk N s st h) : (outsAt N s st h tick).length ≤ 81000 := by
  have := gone_len o (tick := tick)
  unfold outsAt sentAt sendAll
  rw [sortBy_len, sortBy_len]
  refine Nat.le_trans (List.length_filterMap_le _ _) ?_
  rw [all_len]
  simpa using this
theorem leave_mem {N : Net} {h tick : Int} {st : HostSt} {texts : List Text} {x : Text} (hx : x ∈ leaveT N h st tick texts) : x ∈ texts ∨ ∃ w ∈ st.waiting, w.1 = x := by
  unfold leaveT at hx
  obtain ⟨w, hw, rfl⟩ := List.mem_map.mp hx
  have := List.mem_of_mem_take hw
  unfold leaveW at this
  rcases List.mem_append.mp this with z | z
  · exact .inr ⟨w, z, rfl⟩
  · obtain ⟨t, ht, rfl⟩ := List.mem_map.mp z
    exact .inl ((sortBy_perm _ _).mem_iff.mp ht)
theorem gone_bod {N : Net} {s : Sec} {st : RunSt} {h tick : Int} (o : StepOk N s st h) {x : Text} (hx : x ∈ goneAt N st h tick) : (x.body.length : Int) = longOf N := by
  rcases leave_mem hx with z | ⟨w, hw, rfl⟩
  · unfold textsTo at z
    obtain ⟨l, hl, rfl⟩ := List.mem_map.mp z
    exact o.bod l (List.mem_filter.mp hl).1
  · exact o.wb w hw
theorem pre_used {N : Net} {s : Sec} {st : RunSt} {h tick : Int} (o : StepOk N s st h) {pre post : List Text} {x : Text} (hx : goneAt N st h tick = pre ++ x :: post) : (pre.foldl (fun b x => (sendOne N h s b x).1) (leaveS N h (hostAt st h) tick (textsTo st h))).used.length ≤ 100000 := by
  have h1 := send_used N h s pre (leaveS N h (hostAt st h) tick (textsTo st h))
  have h2 : pre.length ≤ (goneAt N st h tick).length := by rw [hx]; simp
  have h3 := gone_len o (tick := tick)
  have h4 : (leaveS N h (hostAt st h) tick (textsTo st h)).used.length ≤ 10000 := o.ul
  omega
theorem set_at {α : Type} {xs : List α} {i : Nat} {a : α} (h : i < xs.length) : (xs.set i a)[i]? = some a := by simp [h]
theorem step_lt {K : PySem.W.Frag} {CH : Addr} {N : Net} {s : Sec} {st : RunSt} {h : Int} (o : StepOk N s st h) : h.toNat < (st.hosts.zipIdx.map (hostS (K := K) CH N)).length := by
  have := o.ho.h0; have := o.ho.hn
  rw [List.length_map, List.length_zipIdx, o.len]
  omega
theorem zip_len {K : PySem.W.Frag} {CH : Addr} {N : Net} {s : Sec} {st : RunSt} {h : Int} (o : StepOk N s st h) : (st.hosts.zipIdx.map (hostS (K := K) CH N)).length = (hostCount N).toNat := by rw [List.length_map, List.length_zipIdx, o.len]
theorem d_Run_host_step (T : Txt K mg) (h_Host_leaving : MethOk P w K mg base T.k_Host.C "leaving" ["self", "tick", "texts"] 3 (spM K T.k_Host.C R_Host_leaving)) (h_Host_sends : MethOk P w K mg base T.k_Host.C "sends" ["self", "secrets", "text"] 3 (spM K T.k_Host.C R_Host_sends)) (h_spoilt : DefOk P w K mg base "spoilt" ["net", "outs", "faults", "kept"] 1 R_spoilt) : MethOk P w K mg base T.k_Run.C "host_step" ["self", "host", "tick"] 4 (spM K T.k_Run.C (R_Run_host_step (K := K) T.k_Host.C)) :=
  T.e_Run_host_step.ok sc_Run_host_step (by intro fs ds r fs' h; cases h <;> rfl) fun f cdv Ar outer s H E hr => ⟨_, (pss_cons (ps_setLc (i := 3) (own := [("_", 7), ("goal", 8), ("text", 9)]) (g := (gTup K 3 (gCons (gName 7) (gCons (gName 8) (gCons (gName 9) gNil))))) rfl sc_Run_host_step.nd rfl rfl (sw_true rfl rfl rfl (by decide +kernel)) (k_list (K := K) (k_fld (K := K) (pv 0))) (blkOk_by (N := N_Run_host_step) (sc := defScope st_Run_host_step) (by decide +kernel)) (fun _ _ _ _ _ => (k_gtup (K := K) rfl (pgs_cons (pg_name (i := 7) sc_Run_host_step.nd rfl (.inl rfl)) (pgs_cons (pg_name (i := 8) sc_Run_host_step.nd rfl (.inl rfl)) (pgs_cons (pg_name (i := 9) sc_Run_host_step.nd rfl (.inl rfl)) pgs_nil))))) (fun _ _ _ _ _ => (pts_one (pt_cmpR (k_eqD hr.units (K := K)) (pv 8) (pe_tup (pa_cons (pe_globI (by rfl) T.m_HOST) (pa_cons (pv 1) pa_nil))) (nomark _)))) (fun _ _ _ _ _ => (pv 9)))
  (pss_cons (ps_set (i := 4) sc_Run_host_step.nd rfl (.inl rfl) (pe_methD (pe_ix (k_ixL (K := K)) (k_fld (K := K) (pv 0)) (pv 1) (fun _ _ => rfl)) T.k_Host.f.cl h_Host_leaving (hr.mono (by decide)) passL (pa_cons (pv 2) (pa_cons (pv 3) pa_nil))))
  (pss_cons (ps_setLc (i := 5) (own := [("text", 9)]) (g := (gName 9)) (tt := tYes) rfl sc_Run_host_step.nd rfl rfl (sw_true rfl rfl rfl (by decide +kernel)) (k_list (K := K) (pv 4)) (blkOk_by (N := N_Run_host_step) (sc := defScope st_Run_host_step) (by decide +kernel)) (fun _ _ _ _ _ => (pg_name (i := 9) sc_Run_host_step.nd rfl (.inl rfl))) (fun _ _ _ _ _ => pts_nil) (fun _ _ _ _ _ => (pe_methD (pe_ix (k_ixL (K := K)) (k_fld (K := K) (pv 0)) (pv 1) (fun _ _ => rfl)) T.k_Host.f.cl h_Host_sends (hr.mono (by decide)) passL (pa_cons (k_fld (K := K) (pv 0)) (pa_cons (pv 9) pa_nil)))))
  (pss_cons (ps_set (i := 5) sc_Run_host_step.nd rfl (.inl rfl) (pe_callB (k_sortD (K := K) hr.units) (by rfl) T.b_sorted (by decide +kernel) (pa_cons (pe_lc (own := [("one", 11)]) (g := (gName 11)) rfl sc_Run_host_step.nd (k_list (K := K) (pv 5)) (blkOk_by (N := N_Run_host_step) (sc := defScope st_Run_host_step) (by decide +kernel)) (fun _ _ _ _ _ => (pg_name (i := 11) sc_Run_host_step.nd rfl (.inl rfl))) (fun _ _ _ _ _ => (pts_one (pt_cmpR op_notN (pv 11) pe_non (nomark _)))) (fun _ _ _ _ _ => (pv 11))) pa_nil)))
  (pss_cons (ps_setLc (i := 6) (own := [("fault", 10)]) (g := (gName 10)) rfl sc_Run_host_step.nd rfl rfl (sw_true rfl rfl rfl (by decide +kernel)) (k_tup (K := K) (k_fld (K := K) (pv 0))) (blkOk_by (N := N_Run_host_step) (sc := defScope st_Run_host_step) (by decide +kernel)) (fun _ _ _ _ _ => (pg_name (i := 10) sc_Run_host_step.nd rfl (.inl rfl))) (fun _ _ _ _ _ => (pts_one (pt_cmpR (k_eqD hr.units (K := K)) (pe_slice (k_slT (K := K)) (pv 10) po_none (po_some pe_int)) (pe_tup (pa_cons (pv 1) (pa_cons (pv 2) pa_nil))) (nomark _)))) (fun _ _ _ _ _ => (pv 10)))
  (pss_cons (ps_set (i := 5) sc_Run_host_step.nd rfl (.inl rfl) (pe_callD h_spoilt (hr.mono (by decide)) (by rfl) passL (pa_cons (k_fld (K := K) (pv 0)) (pa_cons (pv 5) (pa_cons (pv 6) (pa_cons (k_fld (K := K) (pv 0)) pa_nil))))))
  (pss_cons (ps_if (PW.pt (pw_or (k_truth (K := K) (pv 4)) (pw_or1 (k_truth (K := K) (pv 5))))) (pss_one (ps_expr (pe_bm PySem.F.plainAttrs_list PySem.F.slot_list_append PySem.F.type_list_append mt_append (k_fld (K := K) (pv 0)) (pa_cons (pe_tup (pa_cons (pv 2) (pa_cons (pv 1) (pa_cons (pe_callTy (k_tupOf (K := K)) (by rfl) T.b_tuple (by decide +kernel) (pa_cons (pv 4) pa_nil)) (pa_cons (pe_callTy (k_tupOf (K := K)) (by rfl) T.b_tuple (by decide +kernel) (pa_cons (pv 5) pa_nil)) pa_nil))))) pa_nil)))) pss_nil)
  (pss_one (ps_ret (pe_lc (own := [("goal", 8), ("text", 9)]) (g := (gTup K 2 (gCons (gName 8) (gCons (gName 9) gNil)))) (tt := tYes) rfl sc_Run_host_step.nd (k_list (K := K) (pv 5)) (blkOk_by (N := N_Run_host_step) (sc := defScope st_Run_host_step) (by decide +kernel)) (fun _ _ _ _ _ => (k_gtup (K := K) rfl (pgs_cons (pg_name (i := 8) sc_Run_host_step.nd rfl (.inl rfl)) (pgs_cons (pg_name (i := 9) sc_Run_host_step.nd rfl (.inl rfl)) pgs_nil)))) (fun _ _ _ _ _ => pts_nil) (fun _ _ _ _ _ => (pe_tup (pa_cons (pe_tup (pa_cons (pe_globI (by rfl) T.m_HOST) (pa_cons (pv 1) pa_nil))) (pa_cons (pv 8) (pa_cons (pv 9) pa_nil))))))))))))))), fun xo fs ds r fs' hR => by
    cases hR with
    | @mk N s0 ps st h tick o =>
      have hLIM : LIM = 1000000 := rfl
      have hfew := o.few
      have hgl := gone_len o (tick := tick)
      have hol := outs_len o (tick := tick)
      have hsl : (sentAt N s0 st h tick).2.length = (goneAt N st h tick).length := by unfold sentAt sendAll; rw [all_len]; simp
      let ss : List (Sl K) := st.hosts.zipIdx.map (hostS T.k_Host.C N)
      let Sg : List (Sl K) → Sls K := fun hs => [.ow (insA K (some xo) T.k_Run.C (runG N s0 ps hs st.coming st.lines st.batches st.letters)), .da (.int h), .da (.int tick), .da (.list ((textsTo st h).map textD)), .da (.list ((goneAt N st h tick).map textD)), .un, .un, .un, .un, .un, .un, .un]
      exact mb_rs (show SD K E _ [.ow (insA K (some xo) T.k_Run.C (runF T.k_Host.C N s0 ps st)), .da (.int h), .da (.int tick), .un, .un, .un, .un, .un, .un, .un, .un, .un] _ from (sd_seq (sd_set (ED.to (ed_lc_filter (fun l => decide (l.goal = (0, h))) (h := fun l => textD l.x) (it_list (ed_fldI (pl_var rfl) T.k_Run.f.cl (T.k_Run.na (f := "coming") (by decide)) rfl)) (by omega) (fun x hx => ⟨_, (gd_tup (gd_cons (gd_name (by decide)) (gd_cons (gd_name (by decide)) (gd_cons (gd_name (by decide)) gd_nil))) rfl), ((et_cmp (ed_eqD (ed_var rfl) (ed_tup (eda_cons ed_int (eda_cons (ed_var rfl) eda_nil))) (by exact shp_pl _) (by exact shp_pl (0, h))))).to (by exact eqv_pl _ (0, h)), fun hp => ((ed_var rfl)).to (by rfl)⟩)) (by exact (show PyData.list _ = .list ((textsTo st h).map textD) by unfold textsTo; rw [List.map_map]; rfl))))
  (sd_seq (sd_setE (EE.to (ee_meth (pl_ix (pl_fld (pl_var rfl) T.k_Run.f.cl (T.k_Run.na (f := "hosts") (by decide)) rfl) (ed_var rfl) (ix_host o (zip_len o)) (slot_get o (host_get o))) rfl (eda_cons (ed_var rfl) (eda_cons (ed_var rfl) eda_nil)) (R_Host_leaving.mk o.ho (by have h1 := o.wl; have h2 := texts_len (st := st) (h := h); omega))) (by rfl)))
  (sd_seq (sd_setE (EE.to (ee_lc (S := fun b : HostSt => Sg (ss.set h.toNat (.ow (insA K none T.k_Host.C (hostF N h b))))) (step := fun b x => (sendOne N h s0 b x).1) (out := fun b x => optD outD (sendOne N h s0 b x).2) (b0 := leaveS N h (hostAt st h) tick (textsTo st h)) (f := textD) (xs := goneAt N st h tick) (it_list (ed_var rfl)) (by omega) rfl (fun b => rfl) (fun pre post x hx => ⟨_, _, (gd_name (by decide)), ((ee_meth (pl_ix (pl_fld (pl_var rfl) T.k_Run.f.cl (T.k_Run.na (f := "hosts") (by decide)) rfl) (ed_var rfl) (ix_host o (by rw [List.length_set]; exact zip_len o)) (set_at (step_lt o))) rfl (eda_cons (ed_fldI (pl_var rfl) T.k_Run.f.cl (T.k_Run.na (f := "secrets") (by decide)) rfl) (eda_cons (ed_var rfl) eda_nil)) (send_rel o.ho o.sec (gone_bod o (by rw [hx]; simp)) (pre_used o hx)))).to (by rfl), (by exact congrArg Sg (List.set_set ..))⟩)) (sent_map N s0 st h tick)))
  (sd_seq (sd_set (ed_cb (eda_cons (ED.to (ed_lc_filter (fun o => !o.isNone) (h := fun o => optD outD o) (it_list (ed_var rfl)) (by omega) (fun x hx => ⟨_, (gd_name (by decide)), ((et_cmp (ed_notNo (fun _ => ⟨_, rfl⟩) (ed_var rfl) ed_non))).to (by rfl), fun hp => ((ed_var rfl)).to (by rfl)⟩)) (by exact (show PyData.list _ = .list (((sentAt N s0 st h tick).2.filterMap id).map outD) by rw [filter_opt]))) eda_nil) (rc_sortm (by exact srt_out.sal _) (by exact srt_out.sso _) (by exact srt_out.sdp _) (by exact srt_out.scl _))))
  (sd_seq (sd_set (ED.to (ed_lc_filter (fun (_ : Fault) => true) (xs := ([] : List Fault)) (f := faultD) (h := faultD) (it_tup (ed_fldI (pl_var rfl) T.k_Run.f.cl (T.k_Run.na (f := "faults") (by decide)) rfl)) (by show 0 ≤ LIM; omega) (fun x hx => ⟨_, (gd_name (by decide)), ((et_cmp (ed_eqD (ed_slT (ed_var rfl) edo_none (edo_some ed_int)) (ed_tup (eda_cons (ed_var rfl) (eda_cons (ed_var rfl) eda_nil))) (by exact absurd hx (by simp)) (by exact absurd hx (by simp))))).to (by exact absurd hx (by simp)), fun hp => ((ed_var rfl)).to (by rfl)⟩)) (by exact (show PyData.list _ = .list [] from rfl))))
  (sd_seq (sd_set (ED.to (ed_call (eda_cons (ed_fldI (pl_var rfl) T.k_Run.f.cl (T.k_Run.na (f := "net") (by decide)) rfl) (eda_cons (ed_var rfl) (eda_cons (ed_var rfl) (eda_cons (ed_fldI (pl_var rfl) T.k_Run.f.cl (T.k_Run.na (f := "kept") (by decide)) rfl) eda_nil)))) (R_spoilt.mk)) (by exact (show PyData.list _ = .list ((outsAt N s0 st h tick).map outD) from rfl))))
  (sd_seq (sd_if (et_or (et_truL (ed_var rfl)) (fun hb => (et_truL (ed_var rfl)))) (fun hb => (sd_appendQ (pl_fld (pl_var rfl) T.k_Run.f.cl (T.k_Run.na (f := "batches") (by decide)) rfl) (ed_tup (eda_cons (ed_var rfl) (eda_cons (ed_var rfl) (eda_cons (ed_cb (eda_cons (ed_var rfl) eda_nil) rc_tuple_l) (eda_cons (ed_cb (eda_cons (ed_var rfl) eda_nil) rc_tuple_l) eda_nil))))) (by have := o.bl; rw [List.length_map]; omega) (by exact (show (st.batches.map batchD) ++ [batchD ⟨tick, h, goneAt N st h tick, outsAt N s0 st h tick⟩] = (batchAt N s0 st h tick).map batchD by unfold batchAt; rw [if_pos (by simpa using hb), List.map_append]; rfl)))) (fun hb => (SD.to sd_next (by rw [show batchAt N s0 st h tick = st.batches by unfold batchAt; rw [if_neg (by simpa using hb)]]; rfl)))) (sd_rets (ee_of (ED.to (ed_lc_map (f := outD) (h := fun o => lineD ⟨(0, h), o.1, o.2⟩) (it_list (ed_var rfl)) (by omega) (fun x hx => ⟨_, (gd_tup (gd_cons (gd_name (by decide)) (gd_cons (gd_name (by decide)) gd_nil)) rfl), ((ed_tup (eda_cons (ed_tup (eda_cons ed_int (eda_cons (ed_var rfl) eda_nil))) (eda_cons (ed_var rfl) (eda_cons (ed_var rfl) eda_nil))))).to (by rfl)⟩)) (by unfold hostStepL; rw [List.map_map]; rfl)))))))))))) (by exact congrArg (fun hs => some (Sl.ow (insA K (some xo) T.k_Run.C (runG N s0 ps hs st.coming st.lines (batchAt N s0 st h tick) st.letters)))) ((congrArg (fun b => ss.set h.toNat (.ow (insA K none T.k_Host.C (hostF N h b)))) (sent_fst N s0 st h tick)).trans (set_hosts o.ho.h0 _)))⟩
theorem nodup_len {α : Type} [DecidableEq α] : ∀ (l1 l2 : List α), l1.Nodup → (∀ x ∈ l1, x ∈ l2) → l1.length ≤ l2.length
  | [], l2, _, _ => Nat.zero_le _
  | x :: l1, l2, hn, hs => by
    obtain ⟨h1, h2⟩ := List.nodup_cons.mp hn
    have hx := hs x List.mem_cons_self
    have ih := nodup_len l1 (l2.erase x) h2 fun y hy => (List.mem_erase_of_ne (fun e => h1 (by rw [← e]; exact hy))).mpr (hs y (List.mem_cons_of_mem _ hy))
    rw [List.length_erase_of_mem hx] at ih
    have := List.length_pos_of_mem hx
    rw [List.length_cons]
    omega
structure HInv (N : Net) (s : Sec) (h : Int) (t : Nat) (st : HostSt) : Prop where
  wb : ∀ w ∈ st.waiting, (w.1.body.length : Int) = longOf N
  wl : st.waiting.length ≤ 1000 * t
  un : st.used.Nodup
  uk : ∀ g ∈ st.used, [0, h, g] ∈ s.map (·.1)
theorem HInv.up {N : Net} {s : Sec} {h : Int} {t t' : Nat} {st : HostSt} (o : HInv N s h t st) (l : t ≤ t') : HInv N s h t' st := ⟨o.wb, by have := o.wl; omega, o.un, o.uk⟩
theorem HInv.ul {N : Net} {s : Sec} {h : Int} {t : Nat} {st : HostSt} (o : HInv N s h t st) : st.used.length ≤ s.length := by
  have h1 : (st.used.map fun g => [0, h, g]).Nodup := by
    rw [List.nodup_iff_pairwise_ne, List.pairwise_map]
    have := o.un
    rw [List.nodup_iff_pairwise_ne] at this
    exact this.imp fun hne e => hne (by simpa using e)
  have h2 := nodup_len _ (s.map (·.1)) h1 fun x hx => by
    obtain ⟨g, hg, rfl⟩ := List.mem_map.mp hx
    exact o.uk g hg
  simpa using h2
structure MInv (N : Net) (s : Sec) (t j : Nat) (st : RunSt) : Prop where
  len : st.hosts.length = (hostCount N).toNat
  few : st.coming.length ≤ 1000
  bod : ∀ l ∈ st.coming, (l.x.body.length : Int) = longOf N
  ho : ∀ (i : Nat) x, st.hosts[i]? = some x → HInv N s (i : Int) (if i < j then t + 1 else t) x
  bl : st.batches.length ≤ 9 * t + j
  ll : st.lines.length ≤ t
  le : st.letters.length ≤ 1000 * t
/-- behind a send -/
theorem one_inv {N : Net} {s : Sec} {h : Int} {t : Nat} {st : HostSt} (o : HInv N s h t st) (x : Text) : HInv N s h t (sendOne N h s st x).1 ∧ (sendOne N h s st x).1.waiting = st.waiting ∧ ((sendOne N h s st x).2.toList).length + st.used.length ≤ (sendOne N h s st x).1.used.length := by
  unfold sendOne
  split
  · rename_i c
    refine ⟨⟨o.wb, o.wl, ?_, ?_⟩, rfl, ?_⟩
    · show (st.used ++ [x.tag]).Nodup
      rw [List.nodup_append]
      refine ⟨o.un, by simp, fun a ha b hb e => ?_⟩
      have : b = x.tag := by simpa using hb
      exact c.2 (by rw [← this, ← e]; exact ha)
    · show ∀ g ∈ st.used ++ [x.tag], _
      intro g hg
      rcases List.mem_append.mp hg with z | z
      · exact o.uk g z
      · have : g = x.tag := by simpa using z
        rw [this]; exact c.1
    · show _ ≤ (st.used ++ [x.tag]).length
      have : (sendG N h s x).toList.length ≤ 1 := by cases sendG N h s x <;> simp
      simp
      omega
  · exact ⟨o, rfl, by simp⟩
theorem all_inv {N : Net} {s : Sec} {h : Int} {t : Nat} : ∀ (l : List Text) (p : HostSt × List (Option (Pl2 × Text))), HInv N s h t p.1 → HInv N s h t (l.foldl (fun p x => ((sendOne N h s p.1 x).1, p.2 ++ [(sendOne N h s p.1 x).2])) p).1 ∧ (l.foldl (fun p x => ((sendOne N h s p.1 x).1, p.2 ++ [(sendOne N h s p.1 x).2])) p).1.waiting = p.1.waiting ∧
    ((l.foldl (fun p x => ((sendOne N h s p.1 x).1, p.2 ++ [(sendOne N h s p.1 x).2])) p).2.filterMap id).length + p.1.used.length ≤ (p.2.filterMap id).length + (l.foldl (fun p x => ((sendOne N h s p.1 x).1, p.2 ++ [(sendOne N h s p.1 x).2])) p).1.used.length
  | [], p, o => ⟨o, rfl, Nat.le_refl _⟩
  | x :: l, p, o => by
    obtain ⟨a1, a2, a3⟩ := one_inv o x
    obtain ⟨b1, b2, b3⟩ := all_inv l ((sendOne N h s p.1 x).1, p.2 ++ [(sendOne N h s p.1 x).2]) a1
    rw [List.foldl_cons]
    refine ⟨b1, b2.trans a2, ?_⟩
    have e : ((p.2 ++ [(sendOne N h s p.1 x).2]).filterMap id).length = (p.2.filterMap id).length + ((sendOne N h s p.1 x).2.toList).length := by
      rw [List.filterMap_append, List.length_append]
      cases (sendOne N h s p.1 x).2 <;> rfl
    rw [e] at b3
    show _ + p.1.used.length ≤ _
    simp only at b3
    omega
theorem all_bod {N : Net} {s : Sec} {h : Int} (hN : NetOk N) (hs : SecOk N s) : ∀ (l : List Text) (p : HostSt × List (Option (Pl2 × Text))), (∀ x ∈ l, (x.body.length : Int) = longOf N) → (∀ o ∈ p.2.filterMap id, (o.2.body.length : Int) = longOf N) →
    ∀ o ∈ (l.foldl (fun p x => ((sendOne N h s p.1 x).1, p.2 ++ [(sendOne N h s p.1 x).2])) p).2.filterMap id, (o.2.body.length : Int) = longOf N
  | [], p, _, hp => hp
  | x :: l, p, hl, hp => by
    rw [List.foldl_cons]
    refine all_bod hN hs l _ (fun y hy => hl y (List.mem_cons_of_mem _ hy)) fun o ho => ?_
    rw [List.filterMap_append] at ho
    rcases List.mem_append.mp ho with z | z
    · exact hp o z
    · have z2 : (sendOne N h s p.1 x).2 = some o := by
        cases e : (sendOne N h s p.1 x).2 with
        | none => rw [e] at z; simp at z
        | some q => rw [e] at z; simp at z; rw [z]
      unfold sendOne at z2
      split at z2
      · rename_i c
        unfold sendG at z2
        cases hg : nextG N (stageOf N h) (headNo s h x) with
        | none => rw [hg] at z2; cases z2
        | some g =>
          rw [hg] at z2
          have : o = (g, peelText N (padOf s h x) x) := by simpa using z2.symm
          subst this
          have hx := hl x List.mem_cons_self
          have hpd := hs.ln _ (secGet_mem c.1).1
          have hlg := long_in hN
          show ((peelText N (padOf s h x) x).body.length : Int) = longOf N
          unfold peelText padOf
          have h1 : (plainOf (secGet s [0, h, x.tag]) x).length = x.body.length := off_len (by simp at hpd; omega)
          simp only [List.length_append, List.length_drop, h1]
          simp at hpd
          omega
      · cases z2
theorem mid_step {N : Net} {s : Sec} {t j : Nat} {st : RunSt} (o : MInv N s t j st) (hN : NetOk N) (hs : SecOk N s) (ht : t ≤ 79) (hj : (j : Int) < hostCount N) (tick : Int) : StepOk N s st (j : Int) ∧ MInv N s t (j + 1) (hostStepS N s st (j : Int) tick) ∧ (hostStepL N s st (j : Int) tick).length ≤ 100 ∧ ∀ l ∈ hostStepL N s st (j : Int) tick, (l.x.body.length : Int) = longOf N := by
  have hc := count_in hN
  have hjl : j < st.hosts.length := by rw [o.len]; omega
  have hg : st.hosts[j]? = some (hostAt st (j : Int)) := by
    unfold hostAt
    rw [Int.toNat_natCast, List.getElem?_eq_getElem hjl]; rfl
  have hi := o.ho j _ hg
  rw [if_neg (Nat.lt_irrefl j)] at hi
  have hf := hs.few
  have so : StepOk N s st (j : Int) := ⟨⟨hN, by omega, hj⟩, hs, o.len, o.few, o.bod, hi.wb, by have := hi.wl; omega, by have := hi.ul; omega, by have := o.bl; omega⟩
  have htl := texts_len (st := st) (h := (j : Int))
  have hw : HInv N s (j : Int) (t + 1) (leaveS N (j : Int) (hostAt st (j : Int)) tick (textsTo st (j : Int))) := by
    refine ⟨fun w hw => ?_, ?_, hi.un, hi.uk⟩
    · have hw' := List.mem_of_mem_drop hw
      unfold leaveW at hw'
      rcases List.mem_append.mp hw' with z | z
      · exact hi.wb w z
      · obtain ⟨x, hx, rfl⟩ := List.mem_map.mp z
        have hx' := (sortBy_perm _ _).mem_iff.mp hx
        unfold textsTo at hx'
        obtain ⟨l, hl, rfl⟩ := List.mem_map.mp hx'
        exact o.bod l (List.mem_filter.mp hl).1
    · show (List.drop _ _).length ≤ _
      rw [List.length_drop]
      unfold leaveW
      rw [List.length_append, List.length_map, sortBy_len]
      have := hi.wl; have := o.few
      omega
  obtain ⟨c1, c2, c3⟩ := all_inv (goneAt N st (j : Int) tick) (leaveS N (j : Int) (hostAt st (j : Int)) tick (textsTo st (j : Int)), []) hw
  have c4 := all_bod hN hs (h := (j : Int)) (goneAt N st (j : Int) tick) (leaveS N (j : Int) (hostAt st (j : Int)) tick (textsTo st (j : Int)), []) (fun x hx => gone_bod so hx) (fun o ho => by simp at ho)
  refine ⟨so, ⟨?_, o.few, o.bod, fun i x hx => ?_, ?_, o.ll, o.le⟩, ?_, fun l hl => ?_⟩
  · show (st.hosts.set _ _).length = _
    rw [List.length_set]; exact o.len
  · have hx' : (st.hosts.set ((j : Int)).toNat (sentAt N s st (j : Int) tick).1)[i]? = some x := hx
    rw [Int.toNat_natCast] at hx'
    rcases set_get hx' with ⟨e, z, _⟩ | ⟨n, z⟩
    · subst e; subst z
      rw [if_pos (Nat.lt_succ_self j)]
      exact c1
    · have := o.ho i x z
      by_cases hij : i < j
      · rw [if_pos hij] at this; rw [if_pos (by omega)]; exact this
      · rw [if_neg hij] at this; rw [if_neg (by omega)]; exact this
  · show (batchAt N s st (j : Int) tick).length ≤ _
    have := o.bl
    unfold batchAt
    split
    · rw [List.length_append]; simp; omega
    · omega
  · unfold hostStepL outsAt
    rw [List.length_map, sortBy_len, sortBy_len]
    have := c1.ul
    have c3' : ((sentAt N s st (j : Int) tick).2.filterMap id).length ≤ (sentAt N s st (j : Int) tick).1.used.length := by
      have := c3
      simp only [List.filterMap_nil, List.length_nil] at this
      unfold sentAt sendAll
      omega
    have c5 : (sentAt N s st (j : Int) tick).1.used.length ≤ s.length := this
    omega
  · unfold hostStepL outsAt at hl
    obtain ⟨q, hq, rfl⟩ := List.mem_map.mp hl
    have hq' := (sortBy_perm _ _).mem_iff.mp ((sortBy_perm _ _).mem_iff.mp hq)
    exact c4 q hq'
def stepP (N : Net) (s : Sec) (tick : Int) (p : List Line × RunSt) (h : Int) : List Line × RunSt := (p.1 ++ hostStepL N s p.2 h tick, hostStepS N s p.2 h tick)
def stepHere (N : Net) (s : Sec) (ps : List Posting) (st : RunSt) (tick : Int) : List Line × RunSt := (rng 0 (hostCount N).toNat).foldl (stepP N s tick) (postedAt ps tick, st)
structure PsOk (N : Net) (s : Sec) (ps : List Posting) : Prop where
  net : NetOk N
  sec : SecOk N s
  few : ps.length ≤ 24
  po : ∀ p ∈ ps, PostOk N p
theorem posted_ok {N : Net} {s : Sec} {ps : List Posting} (o : PsOk N s ps) (tick : Int) : (postedAt ps tick).length ≤ 24 ∧ ∀ l ∈ postedAt ps tick, (l.x.body.length : Int) = longOf N := by
  unfold postedAt
  refine ⟨by rw [List.length_map]; exact Nat.le_trans (List.length_filter_le _ _) o.few, fun l hl => ?_⟩
  obtain ⟨p, hp, rfl⟩ := List.mem_map.mp hl
  exact (o.po p (List.mem_filter.mp hp).1).x.ln
theorem mid_all {N : Net} {s : Sec} {ps : List Posting} {t : Nat} {st : RunSt} (o : MInv N s t 0 st) (po : PsOk N s ps) (ht : t ≤ 79) (tick : Int) : ∀ j : Nat, (j : Int) ≤ hostCount N → MInv N s t j ((rng 0 j).foldl (stepP N s tick) (postedAt ps tick, st)).2 ∧ ((rng 0 j).foldl (stepP N s tick) (postedAt ps tick, st)).1.length ≤ 24 + 100 * j ∧ ∀ l ∈ ((rng 0 j).foldl (stepP N s tick) (postedAt ps tick, st)).1, (l.x.body.length : Int) = longOf N
  | 0, _ => ⟨o, by have := (posted_ok po tick).1; simpa [rng] using this, by simpa [rng] using (posted_ok po tick).2⟩
  | j + 1, hj => by
    obtain ⟨a, b, c⟩ := mid_all o po ht tick j (by omega)
    obtain ⟨d1, d2, d3, d4⟩ := mid_step a po.net po.sec ht (by omega) tick
    have e : rng 0 (j + 1) = rng 0 j ++ [(j : Int)] := by unfold rng; rw [List.range_succ, List.map_append]; simp
    rw [e, List.foldl_append]
    refine ⟨d2, ?_, fun l hl => ?_⟩
    · show (List.length (_ ++ _)) ≤ _
      rw [List.length_append]; omega
    · rcases List.mem_append.mp (show l ∈ _ ++ _ from hl) with z | z
      · exact c l z
      · exact d4 l z
def lettOf (l : Line) (tick : Int) : Lett := ⟨tick, l.goal.2, l.x⟩
def lettersAt (st : RunSt) (tick : Int) : List Lett := ((sortBy lineD st.coming).filter fun l => decide (l.goal.1 = 1)).map fun l => lettOf l tick
def stepS (N : Net) (s : Sec) (ps : List Posting) (st : RunSt) (tick : Int) : RunSt :=
  ⟨(stepHere N s ps st tick).2.hosts, sortBy lineD (stepHere N s ps st tick).1, st.lines ++ [sortBy lineD (stepHere N s ps st tick).1], (stepHere N s ps st tick).2.batches, st.letters ++ lettersAt st tick⟩
theorem here_same {N : Net} {s : Sec} {tick : Int} : ∀ (l : List Int) (p : List Line × RunSt), (l.foldl (stepP N s tick) p).2.coming = p.2.coming ∧ (l.foldl (stepP N s tick) p).2.lines = p.2.lines ∧ (l.foldl (stepP N s tick) p).2.letters = p.2.letters
  | [], p => ⟨rfl, rfl, rfl⟩
  | h :: l, p => by rw [List.foldl_cons]; exact here_same l (stepP N s tick p h)
theorem letters_len (st : RunSt) (tick : Int) : (lettersAt st tick).length ≤ st.coming.length := by
  unfold lettersAt
  rw [List.length_map, ← sortBy_len lineD st.coming]
  exact List.length_filter_le _ _
theorem step_inv {N : Net} {s : Sec} {ps : List Posting} {t : Nat} {st : RunSt} (o : MInv N s t 0 st) (po : PsOk N s ps) (ht : t ≤ 79) (tick : Int) : MInv N s (t + 1) 0 (stepS N s ps st tick) := by
  have hc := count_in po.net
  have e0 : ((hostCount N).toNat : Int) = hostCount N := Int.toNat_of_nonneg hc.1
  obtain ⟨a, b, c⟩ := mid_all o po ht tick (hostCount N).toNat (by omega)
  have hb := a.bl
  have hl := letters_len st tick
  have hcm := o.few
  have hol := o.le
  have holl := o.ll
  refine ⟨a.len, ?_, fun l hl => c l ((sortBy_perm _ _).mem_iff.mp hl), fun i x hx => ?_, ?_, ?_, ?_⟩
  · show (sortBy lineD (stepHere N s ps st tick).1).length ≤ 1000
    rw [sortBy_len]
    unfold stepHere
    omega
  · have := a.ho i x hx
    have hi : i < (hostCount N).toNat := by rw [← a.len]; exact (List.getElem?_eq_some_iff.mp hx).1
    rw [if_pos hi] at this
    rw [if_neg (Nat.not_lt_zero i)]
    exact this
  · show (stepHere N s ps st tick).2.batches.length ≤ _
    unfold stepHere
    omega
  · show (st.lines ++ [_]).length ≤ _
    rw [List.length_append]; simp; omega
  · show (st.letters ++ _).length ≤ _
    rw [List.length_append]; omega
theorem rng_pre {n : Nat} {pre post : List Int} {x : Int} (hx : rng 0 n = pre ++ x :: post) : pre = rng 0 pre.length ∧ x = (pre.length : Int) ∧ pre.length < n := by
  have h1 := rng_at hx
  refine ⟨?_, by omega, h1.1⟩
  have e : (rng 0 n).take pre.length = pre := by rw [hx, List.take_left']; rfl
  rw [← e]
  unfold rng
  rw [← List.map_take, List.take_range, Nat.min_eq_left (Nat.le_of_lt h1.1)]
  simp
theorem mid_pre {N : Net} {s : Sec} {ps : List Posting} {t : Nat} {st : RunSt} (o : MInv N s t 0 st) (po : PsOk N s ps) (ht : t ≤ 79) (tick : Int) {n : Nat} (hn : n = (hostCount N).toNat) {pre post : List Int} {x : Int} (hx : rng 0 n = pre ++ x :: post) :
    StepOk N s (pre.foldl (stepP N s tick) (postedAt ps tick, st)).2 x ∧ ((pre.foldl (stepP N s tick) (postedAt ps tick, st)).1.map lineD ++ (hostStepL N s (pre.foldl (stepP N s tick) (postedAt ps tick, st)).2 x tick).map lineD).length ≤ 2000 := by
  have hc := count_in po.net
  obtain ⟨e1, e2, e3⟩ := rng_pre hx
  obtain ⟨a, b, c⟩ := mid_all o po ht tick pre.length (by omega)
  rw [← e1] at a b c
  obtain ⟨d1, d2, d3, d4⟩ := mid_step a po.net po.sec ht (by omega) tick
  rw [← e2] at d1 d3
  refine ⟨d1, ?_⟩
  rw [List.length_append, List.length_map, List.length_map]
  omega
theorem here_map (N : Net) (s : Sec) (tick : Int) (p : List Line × RunSt) (h : Int) : PyData.list (p.1.map lineD ++ (hostStepL N s p.2 h tick).map lineD) = .list ((stepP N s tick p h).1.map lineD) := by
  unfold stepP
  rw [List.map_append]
def stepL (tick : Int) (ls : List Lett) (l : Line) : List Lett := if l.goal.1 = 1 then ls ++ [lettOf l tick] else ls
theorem stepL_no {tick : Int} {ls : List Lett} {l : Line} (h : decide (l.goal.1 = 1) = false) : stepL tick ls l = ls := by unfold stepL; rw [if_neg (by simpa using h)]
theorem stepL_yes {tick : Int} {ls : List Lett} {l : Line} (h : decide (l.goal.1 = 1) = true) : ls.map letD ++ [.tuple [.int tick, .int l.goal.2, textD l.x]] = (stepL tick ls l).map letD := by
  unfold stepL
  rw [if_pos (by simpa using h), List.map_append]; rfl
theorem stepL_all (tick : Int) : ∀ (xs : List Line) (ls : List Lett), xs.foldl (stepL tick) ls = ls ++ (xs.filter fun l => decide (l.goal.1 = 1)).map fun l => lettOf l tick
  | [], ls => by simp
  | x :: xs, ls => by
    rw [List.foldl_cons, stepL_all tick xs]
    unfold stepL
    by_cases h : x.goal.1 = 1 <;> simp [h]
theorem stepL_len (tick : Int) (xs : List Line) (ls : List Lett) : (xs.foldl (stepL tick) ls).length ≤ ls.length + xs.length := by
  rw [stepL_all, List.length_append, List.length_map]
  have := List.length_filter_le (fun l : Line => decide (l.goal.1 = 1)) xs
  omega
theorem sort_pre {st : RunSt} {pre post : List Line} {x : Line} (h : sortBy lineD st.coming = pre ++ x :: post) : pre.length < st.coming.length := by
  have e := congrArg List.length h
  rw [sortBy_len, List.length_append, List.length_cons] at e
  omega
theorem here_lines (N : Net) (s : Sec) (ps : List Posting) (st : RunSt) (tick : Int) : (stepHere N s ps st tick).2.coming = st.coming ∧ (stepHere N s ps st tick).2.lines = st.lines ∧ (stepHere N s ps st tick).2.letters = st.letters := here_same _ _
theorem lines_map (ls : List (List Line)) (l : List Line) : ls.map linesD ++ [.tuple (l.map lineD)] = (ls ++ [l]).map linesD := by rw [List.map_append]; rfl
theorem step_eq {K : PySem.W.Frag} (CH : Addr) (N : Net) (s : Sec) (ps : List Posting) (st : RunSt) (tick : Int) : runG (K := K) N s ps ((stepHere N s ps st tick).2.hosts.zipIdx.map (hostS CH N)) (sortBy lineD (stepHere N s ps st tick).1) ((stepHere N s ps st tick).2.lines ++ [sortBy lineD (stepHere N s ps st tick).1]) (stepHere N s ps st tick).2.batches ((sortBy lineD (stepHere N s ps st tick).2.coming).foldl (stepL tick) (stepHere N s ps st tick).2.letters) =
    runF CH N s ps (stepS N s ps st tick) := by
  obtain ⟨h1, h2, h3⟩ := here_lines N s ps st tick
  rw [stepL_all, h1, h2, h3]
  rfl
inductive R_Run_step {K : PySem.W.Frag} (CH : Addr) : MRel K
  | mk {N : Net} {s : Sec} {ps : List Posting} {st : RunSt} {tick : Int} {t : Nat} : PsOk N s ps → MInv N s t 0 st → t ≤ 79 → R_Run_step CH (runF CH N s ps st) [.int tick] .none (runF CH N s ps (stepS N s ps st tick))
theorem d_Run_step (T : Txt K mg) (h_Run_host_step : MethOk P w K mg base T.k_Run.C "host_step" ["self", "host", "tick"] 4 (spM K T.k_Run.C (R_Run_host_step (K := K) T.k_Host.C))) (h_Run_posted : MethOk P w K mg base T.k_Run.C "posted" ["self", "tick"] 1 (spM K T.k_Run.C (R_Run_posted (K := K) T.k_Host.C))) : MethOk P w K mg base T.k_Run.C "step" ["self", "tick"] 5 (spM K T.k_Run.C (R_Run_step (K := K) T.k_Host.C)) :=
  T.e_Run_step.ok sc_Run_step (by intro fs ds r fs' h; cases h <;> rfl) fun f cdv Ar outer s H E hr => ⟨_, (pss_cons (ps_set (i := 2) sc_Run_step.nd rfl (.inl rfl) (pe_methD (pv 0) T.k_Run.f.cl h_Run_posted (hr.mono (by decide)) passL (pa_cons (pv 1) pa_nil)))
  (pss_cons (ps_for PW0 rfl (pi_range1 (by rfl) T.b_range (pa_cons (pe_callB (k_len (K := K)) (by rfl) T.b_len PySem.boot_len (pa_cons (k_fld (K := K) (pv 0)) pa_nil)) pa_nil)) (pg_name (i := 3) sc_Run_step.nd rfl (.inl rfl)) (pss_one (ps_set (i := 2) sc_Run_step.nd rfl (.inl rfl) (pe_op op_cat (pv 2) (pe_methD (pv 0) T.k_Run.f.cl h_Run_host_step (hr.mono (by decide)) passL (pa_cons (pv 3) (pa_cons (pv 1) pa_nil)))))))
  (pss_cons (ps_for PW0 rfl (k_list (K := K) (pe_callB (k_sortD (K := K) hr.units) (by rfl) T.b_sorted (by decide +kernel) (pa_cons (k_fld (K := K) (pv 0)) pa_nil))) (k_gtup (K := K) rfl (pgs_cons (pg_name (i := 4) sc_Run_step.nd rfl (.inl rfl)) (pgs_cons (pg_name (i := 5) sc_Run_step.nd rfl (.inl rfl)) (pgs_cons (pg_name (i := 6) sc_Run_step.nd rfl (.inl rfl)) pgs_nil)))) (pss_one (ps_if (pt_cmpR op_eq (pe_ix (k_ixT (K := K)) (pv 5) pe_int (fun _ _ => rfl)) (pe_globI (by rfl) T.m_PERSON) (nomark _)) (pss_one (ps_expr (pe_bm PySem.F.plainAttrs_list PySem.F.slot_list_append PySem.F.type_list_append mt_append (k_fld (K := K) (pv 0)) (pa_cons (pe_tup (pa_cons (pv 1) (pa_cons (pe_ix (k_ixT (K := K)) (pv 5) pe_int (fun _ _ => rfl)) (pa_cons (pv 6) pa_nil)))) pa_nil)))) pss_nil)))
  (pss_cons (k_sfld (K := K) (pv 0) (pe_callB (k_sortD (K := K) hr.units) (by rfl) T.b_sorted (by decide +kernel) (pa_cons (pv 2) pa_nil)))
  (pss_one (ps_expr (pe_bm PySem.F.plainAttrs_list PySem.F.slot_list_append PySem.F.type_list_append mt_append (k_fld (K := K) (pv 0)) (pa_cons (pe_callTy (k_tupOf (K := K)) (by rfl) T.b_tuple (by decide +kernel) (pa_cons (k_fld (K := K) (pv 0)) pa_nil)) pa_nil)))))))), fun xo fs ds r fs' hR => by
    cases hR with
    | @mk N s0 ps st tick t po o ht =>
      have hLIM : LIM = 1000000 := rfl
      have hfew := o.few
      have hc := count_in po.net
      let q := stepHere N s0 ps st tick
      have hcnt : ∀ CH, (st.hosts.zipIdx.map (hostS (K := K) CH N)).length = (hostCount N).toNat := fun CH => by rw [List.length_map, List.length_zipIdx, o.len]
      exact mb_nx (show SD K E _ [.ow (insA K (some xo) T.k_Run.C (runF T.k_Host.C N s0 ps st)), .da (.int tick), .un, .un, .un, .un, .un] _ from (sd_seq (sd_setE (EE.to (ee_meth (pl_var rfl) rfl (eda_cons (ed_var rfl) eda_nil) (R_Run_posted.mk po.few)) rfl))
  (sd_seq (SD.to (sd_for (S := fun p : List Line × RunSt => [.ow (insA K (some xo) T.k_Run.C (runF T.k_Host.C N s0 ps p.2)), .da (.int tick), .da (.list (p.1.map lineD)), .un, .un, .un, .un]) (step := stepP N s0 tick) (b0 := (postedAt ps tick, st)) (f := .int) (xs := rng 0 ((st.hosts.zipIdx.map (hostS (K := K) T.k_Host.C N)).length : Int).toNat) (it_rng1 (eda_cons (ed_lenLs (pl_fld (pl_var rfl) T.k_Run.f.cl (T.k_Run.na (f := "hosts") (by decide)) rfl)) eda_nil) (by rw [List.length_map, List.length_zipIdx, o.len]; omega) (by rw [List.length_map, List.length_zipIdx, o.len]; omega)) (by walk_at "le") (fun pre post x hx => ⟨_, gs_name, .inl (SD.weak (sd_setE (EE.to (ee_cat (ed_var rfl) (ee_meth (pl_var rfl) rfl (eda_cons (ed_var rfl) (eda_cons (ed_var rfl) eda_nil)) (R_Run_host_step.mk (mid_pre o po ht tick (hcnt T.k_Host.C) hx).1)) (by have := (mid_pre o po ht tick (hcnt T.k_Host.C) hx).2; omega)) (here_map N s0 tick (pre.foldl (stepP N s0 tick) (postedAt ps tick, st)) x))) (by walk_at "le"))⟩)) (congrArg (fun z => Out.nx ((fun p : List Line × RunSt => [.ow (insA K (some xo) T.k_Run.C (runF T.k_Host.C N s0 ps p.2)), .da (.int tick), .da (.list (p.1.map lineD)), .un, .un, .un, .un]) z)) (show _ = q by unfold q stepHere; rw [Int.toNat_natCast, hcnt T.k_Host.C])))
  (sd_seq (sd_for (S := fun ls : List Lett => [.ow (insA K (some xo) T.k_Run.C (runG N s0 ps (q.2.hosts.zipIdx.map (hostS T.k_Host.C N)) q.2.coming q.2.lines q.2.batches ls)), .da (.int tick), .da (.list (q.1.map lineD)), .un, .un, .un, .un]) (step := stepL tick) (b0 := q.2.letters) (f := lineD) (xs := sortBy lineD q.2.coming) (it_list (ed_cb (eda_cons (ed_fldI (pl_var rfl) T.k_Run.f.cl (T.k_Run.na (f := "coming") (by decide)) rfl) eda_nil) (rc_sortm (by exact srt_line.sal _) (by exact srt_line.sso _) (by exact srt_line.sdp _) (by exact srt_line.scl _)))) (by walk_at "le") (fun pre post x hx => ⟨_, (gs_tup (gs_cons gs_name (gs_cons gs_name (gs_cons gs_name gs_nil))) rfl), .inl (sd_if (et_cmp (ed_eqI (ed_ixT (ed_var rfl) ed_int rfl rfl) ed_int)) (fun hb => (SD.weak (sd_appendQ (pl_fld (pl_var rfl) T.k_Run.f.cl (T.k_Run.na (f := "letters") (by decide)) rfl) (ed_tup (eda_cons (ed_var rfl) (eda_cons (ed_ixT (ed_var rfl) ed_int rfl rfl) (eda_cons (ed_var rfl) eda_nil)))) (by have h1 := stepL_len tick pre q.2.letters; have h2 := sort_pre hx; have h3 := here_lines N s0 ps st tick; have h4 := o.le; rw [h3.2.2] at h1; rw [h3.1] at h2; rw [List.length_map]; simp only [q, h3.2.2] at *; omega) (stepL_yes hb)) (by walk_at "le"))) (fun hb => (SD.weak sd_next (by rw [stepL_no hb]; walk_at "le"))))⟩))
  (sd_seq (sd_sfld (pl_var rfl) T.k_Run.f.cl (T.k_Run.na (f := "coming") (by decide)) (ev_da (ED.to (ed_cb (eda_cons (ed_var rfl) eda_nil) (rc_sortm (by exact srt_line.sal _) (by exact srt_line.sso _) (by exact srt_line.sdp _) (by exact srt_line.scl _))) rfl)) (Nat.le_of_ble_eq_true rfl))
  (sd_appendQ (pl_fld (pl_var rfl) T.k_Run.f.cl (T.k_Run.na (f := "lines") (by decide)) rfl) (ed_cb (eda_cons (ed_fldI (pl_var rfl) T.k_Run.f.cl (T.k_Run.na (f := "coming") (by decide)) rfl) eda_nil) rc_tuple_l) (by have h3 := (here_lines N s0 ps st tick).2.1; have h4 := o.ll; rw [List.length_map, h3]; omega) (lines_map _ _))))))) (by exact congrArg (fun z => some (Sl.ow (insA K (some xo) T.k_Run.C z))) (step_eq T.k_Host.C N s0 ps st tick))⟩
def hostsN : List Str := ["net", "host", "rule", "waiting", "used"]
def hostOb (N : Net) (p : HostSt × Nat) : PyData := obD "Host" [("net", netD N), ("host", .int (p.2 : Int)), ("rule", ruleD (ruleAt N (p.2 : Int))), ("waiting", .list (p.1.waiting.map waitD)), ("used", .list (p.1.used.map .int))]
def runD (N : Net) (s : Sec) (ps : List Posting) (st : RunSt) : PyData := obD "Run" [("net", netD N), ("secrets", secD s), ("postings", postsD ps), ("faults", faultsD []), ("hosts", .list (st.hosts.zipIdx.map (hostOb N))), ("coming", .list (st.coming.map lineD)), ("lines", .list (st.lines.map linesD)), ("batches", .list (st.batches.map batchD)), ("letters", .list (st.letters.map letD)), ("kept", .list [])]
theorem frz_host {K : PySem.W.Frag} {CH : Addr} (hc : ClsAt K "Host" CH) (N : Net) (p : HostSt × Nat) : Frz K (insA K none CH (hostF N (p.2 : Int) p.1)) (hostOb N p) :=
  frz_ins (fs := hostF N (p.2 : Int) p.1) hc (.da (.da (.da (.ow frz_ml (.ow frz_ml .nil)))))
theorem frz_hosts {K : PySem.W.Frag} {CH : Addr} (hc : ClsAt K "Host" CH) (N : Net) : ∀ l : List (HostSt × Nat), FrzS K (l.map (hostS CH N)) (l.map (hostOb N))
  | [] => .nil
  | p :: l => .ow (frz_host hc N p) (frz_hosts hc N l)
theorem frz_run {K : PySem.W.Frag} {CH CR : Addr} (hc : ClsAt K "Host" CH) (hr : ClsAt K "Run" CR) (N : Net) (s : Sec) (ps : List Posting) (st : RunSt) : Frz K (insA K none CR (runF CH N s ps st)) (runD N s ps st) :=
  frz_ins (fs := runF CH N s ps st) hr (.da (.da (.da (.da (.ow (frz_ls (frz_hosts hc N _)) (.da (.ow frz_ml (.ow frz_ml (.ow frz_ml (.da .nil))))))))))
def runS (N : Net) (s : Sec) (ps : List Posting) (n : Nat) : RunSt := (rng 0 n).foldl (stepS N s ps) (run0 N)
theorem rng_succ (n : Nat) : rng 0 (n + 1) = rng 0 n ++ [(n : Int)] := by unfold rng; rw [List.range_succ, List.map_append]; simp
theorem runS_succ (N : Net) (s : Sec) (ps : List Posting) (n : Nat) : runS N s ps (n + 1) = stepS N s ps (runS N s ps n) (n : Int) := by
  unfold runS
  rw [rng_succ, List.foldl_append]; rfl
theorem run_inv {N : Net} {s : Sec} {ps : List Posting} (po : PsOk N s ps) : ∀ n : Nat, n ≤ 80 → MInv N s n 0 (runS N s ps n)
  | 0, _ => ⟨by unfold runS run0; simp [rng], Nat.zero_le _, fun l hl => by simp [runS, run0, rng] at hl, (fun i x hx => by
      have hx' : (List.replicate (hostCount N).toNat (⟨[], []⟩ : HostSt))[i]? = some x := hx
      rw [List.getElem?_replicate] at hx'
      split at hx'
      · cases hx'
        exact ⟨fun w hw => by simp at hw, Nat.zero_le _, List.nodup_nil, fun g hg => by simp at hg⟩
      · cases hx'), Nat.zero_le _, Nat.zero_le _, Nat.zero_le _⟩
  | n + 1, hn => by
    rw [runS_succ]
    exact step_inv (run_inv po n (by omega)) po (by omega) _
inductive R_run_by : List PyData → Res → Prop
  | mk {N : Net} {s : Sec} {ps : List Posting} {t : Int} : PsOk N s ps → (s.map (·.1)).Nodup → (0 ≤ t ∧ t ≤ 80) → R_run_by [netD N, secD s, postsD ps, faultsD [], .int t] (.val (runD N s ps (runS N s ps t.toNat)))
theorem run_at {N : Net} {s : Sec} {ps : List Posting} (po : PsOk N s ps) {t : Int} (ht : t ≤ 80) {pre post : List Int} {x : Int} (hx : rng 0 t.toNat = pre ++ x :: post) : MInv N s pre.length 0 (pre.foldl (stepS N s ps) (run0 N)) ∧ pre.length ≤ 79 := by
  obtain ⟨e1, e2, e3⟩ := rng_pre hx
  have := run_inv po pre.length (by omega)
  unfold runS at this
  rw [← e1] at this
  exact ⟨this, by omega⟩
theorem d_run_by (T : Txt K mg) (h_Run___init__ : InitOk P w K mg base T.k_Run.C ["self", "net", "secrets", "postings", "faults"] 4 (spM K T.k_Run.C (R_Run___init__ (K := K) T.k_Host.C))) (h_Run_step : MethOk P w K mg base T.k_Run.C "step" ["self", "tick"] 5 (spM K T.k_Run.C (R_Run_step (K := K) T.k_Host.C))) : DefOk P w K mg base "run_by" ["net", "secrets", "postings", "faults", "ticks"] 6 R_run_by :=
  T.d_run_by.ok sc_run_by (by decide) (by intro ds r h; cases h <;> rfl) fun f cdv Ar outer s H E hr => ⟨_, (pss_cons (ps_set (i := 5) sc_run_by.nd rfl (.inl rfl) (pe_makeD h_Run___init__ (hr.mono (by decide)) (by rfl) T.k_Run.f.g passL (pa_cons (pv 0) (pa_cons (pv 1) (pa_cons (pv 2) (pa_cons (pv 3) pa_nil))))))
  (pss_cons (ps_for PW0 rfl (pi_range1 (by rfl) T.b_range (pa_cons (pv 4) pa_nil)) (pg_name (i := 6) sc_run_by.nd rfl (.inl rfl)) (pss_one (ps_expr (pe_methD (pv 5) T.k_Run.f.cl h_Run_step (hr.mono (by decide)) passL (pa_cons (pv 6) pa_nil)))))
  (pss_one (ps_ret (pv 5))))), fun ds r hR => by
    cases hR with
    | @mk N s0 ps t po hnd ht =>
      exact .inl (show SD K E _ [.da (netD N), .da (secD s0), .da (postsD ps), .da (faultsD []), .da (.int t), .un, .un] _ from (sd_seq (sd_setO (eo_make (eda_cons (ed_var rfl) (eda_cons (ed_var rfl) (eda_cons (ed_var rfl) (eda_cons (ed_var rfl) eda_nil)))) (R_Run___init__.mk (CH := T.k_Host.C) po.net po.sec hnd)))
  (sd_seq (sd_for (S := fun st : RunSt => [.da (netD N), .da (secD s0), .da (postsD ps), .da (faultsD []), .da (.int t), .ow (insA K none T.k_Run.C (runF T.k_Host.C N s0 ps st)), .un]) (step := stepS N s0 ps) (b0 := run0 N) (f := .int) (xs := rng 0 t.toNat) (it_rng1 (eda_cons (ed_var rfl) eda_nil) (by omega) (by omega)) (by walk_at "le") (fun pre post x hx => ⟨_, gs_name, .inl (SD.weak (sd_dropE (ee_meth (pl_var rfl) rfl (eda_cons (ed_var rfl) eda_nil) (R_Run_step.mk po (run_at po ht.2 hx).1 (run_at po ht.2 hx).2))) (by walk_at "le"))⟩))
  (sd_freezeA 5 rfl (frz_run T.k_Host.f.at_ T.k_Run.f.at_ N s0 ps _) (sd_ret (ED.to (ed_var rfl) (by rfl)))))))⟩
def leftOf (st : RunSt) : List Int := st.hosts.map fun h => (h.waiting.length : Int)
def toldF {K : PySem.W.Frag} (st : RunSt) : List (Str × Sl K) := [("lines", .da (.tuple (st.lines.map linesD))), ("done", .da (.tuple (st.batches.map batchD))), ("letters", .da (.tuple (st.letters.map letD))), ("left", .da (tupI (leftOf st)))]
def toldD (st : RunSt) : PyData := obD "Told" [("lines", .tuple (st.lines.map linesD)), ("done", .tuple (st.batches.map batchD)), ("letters", .tuple (st.letters.map letD)), ("left", tupI (leftOf st))]
theorem frz_told {K : PySem.W.Frag} {CT : Addr} (ht : ClsAt K "Told" CT) (st : RunSt) : Frz K (insA K none CT (toldF st)) (toldD st) := frz_ins (fs := toldF st) ht (.da (.da (.da (.da .nil))))
theorem left_map (N : Net) (st : RunSt) : (st.hosts.zipIdx.map fun p : HostSt × Nat => PyData.int ((p.1.waiting.map waitD).length : Int)) = (leftOf st).map .int := by
  unfold leftOf
  rw [List.map_map]
  apply List.ext_getElem?
  intro i
  rw [List.getElem?_map, List.getElem?_map, List.getElem?_zipIdx]
  cases st.hosts[i]? <;> simp
inductive R_Told___init__ {K : PySem.W.Frag} : MRel K
  | mk {N : Net} {s : Sec} {ps : List Posting} {st : RunSt} : st.hosts.length ≤ 9 → R_Told___init__ [] [runD N s ps st] .none (toldF st)
theorem d_Told___init__ (T : Txt K mg) : InitOk P w K mg base T.k_Told.C ["self", "run"] 1 (spM K T.k_Told.C R_Told___init__) :=
  T.e_Told___init__.ok sc_Told___init__ (by intro fs ds r fs' h; cases h <;> rfl) fun f cdv Ar outer s H E hr => ⟨_, (pss_cons (k_sfld (K := K) (pv 0) (pe_callTy (k_tupOf (K := K)) (by rfl) T.b_tuple (by decide +kernel) (pa_cons (k_fld (K := K) (pv 1)) pa_nil)))
  (pss_cons (k_sfld (K := K) (pv 0) (pe_callTy (k_tupOf (K := K)) (by rfl) T.b_tuple (by decide +kernel) (pa_cons (k_fld (K := K) (pv 1)) pa_nil)))
  (pss_cons (k_sfld (K := K) (pv 0) (pe_callTy (k_tupOf (K := K)) (by rfl) T.b_tuple (by decide +kernel) (pa_cons (k_fld (K := K) (pv 1)) pa_nil)))
  (pss_one (k_sfld (K := K) (pv 0) (pe_callTy (k_tupOf (K := K)) (by rfl) T.b_tuple (by decide +kernel) (pa_cons (pe_lc (own := [("host", 2)]) (g := (gName 2)) (tt := tYes) rfl sc_Told___init__.nd (k_list (K := K) (k_fld (K := K) (pv 1))) (blkOk_by (N := N_Told___init__) (sc := defScope st_Told___init__) (by decide +kernel)) (fun _ _ _ _ _ => (pg_name (i := 2) sc_Told___init__.nd rfl (.inl rfl))) (fun _ _ _ _ _ => pts_nil) (fun _ _ _ _ _ => (pe_callB (k_len (K := K)) (by rfl) T.b_len PySem.boot_len (pa_cons (k_fld (K := K) (pv 2)) pa_nil)))) pa_nil))))))), fun xo fs ds r fs' hR => by
    cases hR with
    | @mk N s0 ps st hl =>
      exact mb_nx (show SD K E _ [.ow (insA K (some xo) T.k_Told.C []), .da (runD N s0 ps st), .un] _ from (sd_seq (sd_sfld (pl_var rfl) T.k_Told.f.cl (T.k_Told.na (f := "lines") (by decide)) (ev_da (ED.to (ed_cb (eda_cons (ed_fld (ed_var rfl) T.k_Run.f.at_ T.k_Run.f.cl (T.k_Run.na (f := "lines") (by decide)) rfl) eda_nil) rc_tuple_l) rfl)) (Nat.le_of_ble_eq_true rfl))
  (sd_seq (sd_sfld (pl_var rfl) T.k_Told.f.cl (T.k_Told.na (f := "done") (by decide)) (ev_da (ED.to (ed_cb (eda_cons (ed_fld (ed_var rfl) T.k_Run.f.at_ T.k_Run.f.cl (T.k_Run.na (f := "batches") (by decide)) rfl) eda_nil) rc_tuple_l) rfl)) (Nat.le_of_ble_eq_true rfl))
  (sd_seq (sd_sfld (pl_var rfl) T.k_Told.f.cl (T.k_Told.na (f := "letters") (by decide)) (ev_da (ED.to (ed_cb (eda_cons (ed_fld (ed_var rfl) T.k_Run.f.at_ T.k_Run.f.cl (T.k_Run.na (f := "letters") (by decide)) rfl) eda_nil) rc_tuple_l) rfl)) (Nat.le_of_ble_eq_true rfl))
  (sd_sfld (pl_var rfl) T.k_Told.f.cl (T.k_Told.na (f := "left") (by decide)) (ev_da (ED.to (ed_cb (eda_cons (ed_lc_map (f := hostOb N) (h := fun p : HostSt × Nat => PyData.int ((p.1.waiting.map waitD).length : Int)) (xs := st.hosts.zipIdx) (it_list (ed_fld (ed_var rfl) T.k_Run.f.at_ T.k_Run.f.cl (T.k_Run.na (f := "hosts") (by decide)) rfl)) (by have : LIM = 1000000 := rfl; rw [List.length_zipIdx]; omega) (fun x hx => ⟨_, (gd_name (by decide)), ((ed_cb (eda_cons (ed_fld (ed_var rfl) T.k_Host.f.at_ T.k_Host.f.cl (T.k_Host.na (f := "waiting") (by decide)) rfl) eda_nil) rc_lenL)).to (by rfl)⟩)) eda_nil) rc_tuple_l) (congrArg PyData.tuple (left_map N st)))) (Nat.le_of_ble_eq_true rfl)))))) (by rfl)⟩
inductive R_Told_log : List PyData → Res → Prop
  | mk {st : RunSt} : R_Told_log [toldD st] (.val (.tuple (st.lines.map linesD)))
theorem d_Told_log (T : Txt K mg) : MethOk P w K mg base T.k_Told.C "log" ["self"] 1 (spD K R_Told_log) :=
  T.e_Told_log.okD sc_Told_log (by decide) (by intro ds r h; cases h <;> rfl) fun f cdv Ar outer s H E hr => ⟨_, (pss_one (ps_ret (k_fld (K := K) (pv 0)))), fun ds r hR => by
    cases hR with
    | @mk st =>
      exact .inl (show SD K E _ [.da (toldD st)] _ from (sd_ret (ED.to (ed_fld (ed_var rfl) T.k_Told.f.at_ T.k_Told.f.cl (T.k_Told.na (f := "lines") (by decide)) rfl) (by rfl))))⟩
inductive R_Told_batches : List PyData → Res → Prop
  | mk {st : RunSt} : R_Told_batches [toldD st] (.val (.tuple (st.batches.map batchD)))
theorem d_Told_batches (T : Txt K mg) : MethOk P w K mg base T.k_Told.C "batches" ["self"] 1 (spD K R_Told_batches) :=
  T.e_Told_batches.okD sc_Told_batches (by decide) (by intro ds r h; cases h <;> rfl) fun f cdv Ar outer s H E hr => ⟨_, (pss_one (ps_ret (k_fld (K := K) (pv 0)))), fun ds r hR => by
    cases hR with
    | @mk st =>
      exact .inl (show SD K E _ [.da (toldD st)] _ from (sd_ret (ED.to (ed_fld (ed_var rfl) T.k_Told.f.at_ T.k_Told.f.cl (T.k_Told.na (f := "done") (by decide)) rfl) (by rfl))))⟩
inductive R_Told_came : List PyData → Res → Prop
  | mk {st : RunSt} : R_Told_came [toldD st] (.val (.tuple (st.letters.map letD)))
theorem d_Told_came (T : Txt K mg) : MethOk P w K mg base T.k_Told.C "came" ["self"] 1 (spD K R_Told_came) :=
  T.e_Told_came.okD sc_Told_came (by decide) (by intro ds r h; cases h <;> rfl) fun f cdv Ar outer s H E hr => ⟨_, (pss_one (ps_ret (k_fld (K := K) (pv 0)))), fun ds r hR => by
    cases hR with
    | @mk st =>
      exact .inl (show SD K E _ [.da (toldD st)] _ from (sd_ret (ED.to (ed_fld (ed_var rfl) T.k_Told.f.at_ T.k_Told.f.cl (T.k_Told.na (f := "letters") (by decide)) rfl) (by rfl))))⟩
inductive R_Told_waiting : List PyData → Res → Prop
  | mk {st : RunSt} : R_Told_waiting [toldD st] (.val (tupI (leftOf st)))
theorem d_Told_waiting (T : Txt K mg) : MethOk P w K mg base T.k_Told.C "waiting" ["self"] 1 (spD K R_Told_waiting) :=
  T.e_Told_waiting.okD sc_Told_waiting (by decide) (by intro ds r h; cases h <;> rfl) fun f cdv Ar outer s H E hr => ⟨_, (pss_one (ps_ret (k_fld (K := K) (pv 0)))), fun ds r hR => by
    cases hR with
    | @mk st =>
      exact .inl (show SD K E _ [.da (toldD st)] _ from (sd_ret (ED.to (ed_fld (ed_var rfl) T.k_Told.f.at_ T.k_Told.f.cl (T.k_Told.na (f := "left") (by decide)) rfl) (by rfl))))⟩
inductive R_led : List PyData → Res → Prop
  | mk {N : Net} {s : Sec} {ps : List Posting} {t : Int} : PsOk N s ps → (s.map (·.1)).Nodup → (1 ≤ t ∧ t ≤ 80) → R_led [netD N, secD s, postsD ps, faultsD [], .int t] (.val (toldD (runS N s ps t.toNat)))
theorem d_led (T : Txt K mg) (h_Told___init__ : InitOk P w K mg base T.k_Told.C ["self", "run"] 1 (spM K T.k_Told.C R_Told___init__)) (h_need_run : DefOk P w K mg base "need_run" ["net", "secrets", "postings", "faults", "ticks"] 9 R_need_run) (h_run_by : DefOk P w K mg base "run_by" ["net", "secrets", "postings", "faults", "ticks"] 6 R_run_by) : DefOk P w K mg base "led" ["net", "secrets", "postings", "faults", "ticks"] 10 R_led :=
  T.d_led.ok sc_led (by decide) (by intro ds r h; cases h <;> rfl) fun f cdv Ar outer s H E hr => ⟨_, (pss_cons (ps_expr (pe_callD h_need_run (hr.mono (by decide)) (by rfl) passC (pa_cons (pv 0) (pa_cons (pv 1) (pa_cons (pv 2) (pa_cons (pv 3) (pa_cons (pv 4) pa_nil)))))))
  (pss_one (ps_ret (pe_makeD h_Told___init__ (hr.mono (by decide)) (by rfl) T.k_Told.f.g passL (pa_cons (pe_callD h_run_by (hr.mono (by decide)) (by rfl) passL (pa_cons (pv 0) (pa_cons (pv 1) (pa_cons (pv 2) (pa_cons (pv 3) (pa_cons (pv 4) pa_nil)))))) pa_nil))))), fun ds r hR => by
    cases hR with
    | @mk N s0 ps t po hnd ht =>
      have hc := count_in po.net
      have hi := (run_inv po t.toNat (by omega)).len
      exact .inl (show SD K E _ [.da (netD N), .da (secD s0), .da (postsD ps), .da (faultsD []), .da (.int t)] _ from (sd_seq (sd_drop (ed_call (eda_cons (ed_var rfl) (eda_cons (ed_var rfl) (eda_cons (ed_var rfl) (eda_cons (ed_var rfl) (eda_cons (ed_var rfl) eda_nil))))) (R_need_run.mk ⟨po.net, po.sec, po.few, po.po, by simp, fun p hp => by simp at hp, ht.1, ht.2⟩)))
  (sd_ret (ED.to (ed_ofEO (eo_make (eda_cons (ed_call (eda_cons (ed_var rfl) (eda_cons (ed_var rfl) (eda_cons (ed_var rfl) (eda_cons (ed_var rfl) (eda_cons (ed_var rfl) eda_nil))))) (R_run_by.mk po hnd ⟨by omega, ht.2⟩)) eda_nil) (R_Told___init__.mk (by omega))) (frz_told T.k_Told.f.at_ _)) (by rfl)))))⟩
/-- the bodies, from the outermost: told by recursion -/
def bodiesR (long : Int) (b0 : List Int) : List (List Int × List Int) → List (List Int)
  | [] => [b0]
  | hp :: r => overL (hp.1 ++ ((bodiesR long b0 r).headD []).take (long - 3).toNat) hp.2 :: bodiesR long b0 r
theorem bodies_fold (long : Int) (b0 : List Int) : ∀ l : List (List Int × List Int), (l.reverse.foldl (bodyS long) (b0, [b0])).1 = (bodiesR long b0 l).headD [] ∧ (l.reverse.foldl (bodyS long) (b0, [b0])).2.reverse = bodiesR long b0 l
  | [] => ⟨rfl, rfl⟩
  | hp :: r => by
    obtain ⟨h1, h2⟩ := bodies_fold long b0 r
    rw [List.reverse_cons, List.foldl_append]
    show (bodyS long (r.reverse.foldl (bodyS long) (b0, [b0])) hp).1 = _ ∧ (bodyS long (r.reverse.foldl (bodyS long) (b0, [b0])) hp).2.reverse = _
    generalize r.reverse.foldl (bodyS long) (b0, [b0]) = q at *
    unfold bodyS
    rw [h1]
    refine ⟨rfl, ?_⟩
    rw [List.reverse_append, h2]; rfl
theorem bodies_eq (N : Net) (s : Sec) (o : Order) : bodiesOf N s o = bodiesR (longOf N) (body0 N s o) ((headsOf o).zip (padsOf s o)) := (bodies_fold _ _ _).2
theorem bodiesR_len (long : Int) (b0 : List Int) : ∀ l : List (List Int × List Int), (bodiesR long b0 l).length = l.length + 1
  | [] => rfl
  | hp :: r => by unfold bodiesR; rw [List.length_cons, List.length_cons, bodiesR_len long b0 r]
def okB (long : Int) (b : List Int) : Prop := (b.length : Int) = long ∧ ∀ x ∈ b, 0 ≤ x ∧ x < 97
theorem over_in {a b : List Int} : ∀ x ∈ overL a b, 0 ≤ x ∧ x < 97 := fun x hx => by
  obtain ⟨p, _, rfl⟩ := List.mem_map.mp hx
  omega
theorem off_in {a b : List Int} : ∀ x ∈ offL a b, 0 ≤ x ∧ x < 97 := fun x hx => by
  obtain ⟨p, _, rfl⟩ := List.mem_map.mp hx
  omega
theorem bodiesR_ok {long : Int} {b0 : List Int} (h3 : 3 ≤ long) (h0 : okB long b0) : ∀ l : List (List Int × List Int), (∀ hp ∈ l, hp.1.length = 3 ∧ (hp.2.length : Int) = long + 3) → ∀ b ∈ bodiesR long b0 l, okB long b
  | [], _, b, hb => by
    have : b = b0 := by simpa [bodiesR] using hb
    rw [this]; exact h0
  | hp :: r, hl, b, hb => by
    have ih := bodiesR_ok h3 h0 r fun q hq => hl q (List.mem_cons_of_mem _ hq)
    unfold bodiesR at hb
    rcases List.mem_cons.mp hb with rfl | hb
    · have h1 := hl hp List.mem_cons_self
      have hh : okB long ((bodiesR long b0 r).headD []) := by
        apply ih
        have := bodiesR_len long b0 r
        cases e : bodiesR long b0 r with
        | nil => rw [e] at this; simp at this
        | cons x xs => simp
      refine ⟨?_, over_in⟩
      rw [over_len]
      · rw [List.length_append, List.length_take]; have := hh.1; omega
      · rw [List.length_append, List.length_take]; have := hh.1; omega
    · exact ih b hb
theorem tailS_in {long : Nat} : ∀ (pads : List (List Int)) (t : List Int), (∀ p ∈ pads, ∀ x ∈ p, 0 ≤ x ∧ x < 97) → (∀ x ∈ t, 0 ≤ x ∧ x < 97) → ∀ x ∈ pads.foldl (tailS long) t, 0 ≤ x ∧ x < 97
  | [], t, _, ht => ht
  | p :: ps, t, hp, ht => by
    rw [List.foldl_cons]
    refine tailS_in ps _ (fun q hq => hp q (List.mem_cons_of_mem _ hq)) fun x hx => ?_
    unfold tailS at hx
    rcases List.mem_append.mp hx with z | z
    · exact off_in x z
    · exact hp p List.mem_cons_self x (List.mem_of_mem_drop z)
theorem SealOk.pin {N : Net} {s : Sec} {o : Order} (h : SealOk N s o) : ∀ p ∈ padsOf s o, ∀ x ∈ p, 0 ≤ x ∧ x < 97 := fun p hp x hx => by
  obtain ⟨q, hq, rfl⟩ := List.mem_map.mp hp
  have := h.sec.un _ (secGet_mem (h.all q hq)).1
  unfold allUnder at this
  have := List.all_eq_true.mp this x hx
  simpa using this
theorem SealOk.b0 {N : Net} {s : Sec} {o : Order} (h : SealOk N s o) : okB (longOf N) (body0 N s o) := by
  obtain ⟨hp1, hp2⟩ := h.pads
  have hs := h.net.s3; have hs1 := h.net.s1
  have hl := long_in h.net
  have hlg : longOf N = 3 * (N.st.length : Int) + N.w := rfl
  have hlast := last_some (xs := padsOf s o) (by omega) []
  have hlast2 := hp2 _ hlast.2
  have hbl := h.ord.bl
  have a := tail_len (long := (longOf N).toNat) (pads := (padsOf s o).dropLast) (t := []) (fun p hp => by have := hp2 p (List.dropLast_subset _ hp); omega) (by rw [List.length_dropLast]; simp; omega)
  rw [List.length_dropLast] at a
  refine ⟨?_, fun x hx => ?_⟩
  · unfold body0 tailOf
    rw [List.length_append, over_len (by omega)]
    simp at a
    omega
  · unfold body0 at hx
    rcases List.mem_append.mp hx with z | z
    · exact over_in x z
    · exact tailS_in _ [] (fun p hp => h.pin p (List.dropLast_subset _ hp)) (by simp) x z
theorem SealOk.zip {N : Net} {s : Sec} {o : Order} (h : SealOk N s o) : ∀ hp ∈ (headsOf o).zip (padsOf s o), hp.1.length = 3 ∧ (hp.2.length : Int) = longOf N + 3 := fun hp hm => by
  have hz := List.of_mem_zip (a := hp.1) (b := hp.2) hm
  exact ⟨heads3 hz.1, h.pads.2 _ hz.2⟩
theorem SealOk.bods {N : Net} {s : Sec} {o : Order} (h : SealOk N s o) : ∀ b ∈ bodiesOf N s o, okB (longOf N) b := by
  rw [bodies_eq]
  exact bodiesR_ok (by have := long_in h.net; omega) h.b0 _ h.zip
theorem heads_len {N : Net} {o : Order} (h : OrderOk N o) : (headsOf o).length = N.st.length := by
  have := h.way.ro.len; have := h.way.tl
  unfold headsOf
  rw [List.length_map, List.length_zip, List.length_append, List.length_drop, List.length_drop]
  simp; omega
theorem SealOk.blen {N : Net} {s : Sec} {o : Order} (h : SealOk N s o) : (bodiesOf N s o).length = N.st.length + 1 := by
  rw [bodies_eq, bodiesR_len, List.length_zip, heads_len h.ord, h.pads.1]
  omega
theorem SealOk.tlen {N : Net} {s : Sec} {o : Order} (h : SealOk N s o) : (textsOf N s o).length = N.st.length + 1 := by
  have := h.ord.way.tl
  unfold textsOf
  rw [List.length_map, List.length_zip, h.blen]
  omega
def postOf (N : Net) (s : Sec) (o : Order) : Posting := ⟨o.t, o.w, o.ro.getD 0 0, (textsOf N s o).getD 0 ⟨0, []⟩⟩
inductive R_postings_by : List PyData → Res → Prop
  | mk {N : Net} {s : Sec} {os : List Order} : NetOk N → os.length ≤ 100 → (∀ o ∈ os, SealOk N s o) → R_postings_by [netD N, secD s, ordersD os] (.val (postsD (os.map (postOf N s))))
theorem d_postings_by (T : Txt K mg) (h_texts_by : DefOk P w K mg base "texts_by" ["net", "secrets", "order"] 4 R_texts_by) : DefOk P w K mg base "postings_by" ["net", "secrets", "orders"] 5 R_postings_by :=
  T.d_postings_by.ok sc_postings_by (by decide) (by intro ds r h; cases h <;> rfl) fun f cdv Ar outer s H E hr => ⟨_, (pss_one (ps_ret (pe_callTy (k_tupOf (K := K)) (by rfl) T.b_tuple (by decide +kernel) (pa_cons (pe_lc (own := [("order", 3)]) (g := (gName 3)) (tt := tYes) rfl sc_postings_by.nd (k_tup (K := K) (pv 2)) (blkOk_by (N := N_postings_by) (sc := defScope st_postings_by) (by decide +kernel)) (fun _ _ _ _ _ => (pg_name (i := 3) sc_postings_by.nd rfl (.inl rfl))) (fun _ _ _ _ _ => pts_nil) (fun _ _ _ _ _ => (pe_tup (pa_cons (pe_ix (k_ixT (K := K)) (pv 3) pe_int (fun _ _ => rfl)) (pa_cons (pe_ix (k_ixT (K := K)) (pv 3) pe_int (fun _ _ => rfl)) (pa_cons (pe_ix (k_ixT (K := K)) (pe_ix (k_ixT (K := K)) (pv 3) pe_int (fun _ _ => rfl)) pe_int (fun _ _ => rfl)) (pa_cons (pe_ix (k_ixL (K := K)) (pe_callD h_texts_by (hr.mono (by decide)) (by rfl) passL (pa_cons (pv 0) (pa_cons (pv 1) (pa_cons (pv 3) pa_nil)))) pe_int (fun _ _ => rfl)) pa_nil))))))) pa_nil)))), fun ds r hR => by
    cases hR with
    | @mk N s0 os hN hl ho =>
      have h1 := hN.s1
      have hLIM : LIM = 1000000 := rfl
      exact .inl (show SD K E _ [.da (netD N), .da (secD s0), .da (ordersD os), .un] _ from (sd_ret (ED.to (ed_cb (eda_cons (ed_lc_map (f := orderD) (xs := os) (h := fun o => postD (postOf N s0 o)) (it_tup (ed_var rfl)) (by omega) (fun x hx => ⟨_, (gd_name (by decide)), ((ed_tup (eda_cons (ed_ixT (ed_var rfl) ed_int rfl rfl) (eda_cons (ed_ixT (ed_var rfl) ed_int rfl rfl) (eda_cons (ed_ixTi (ed_ixT (ed_var rfl) ed_int rfl rfl) ed_int (by decide) (by (have := (ho x hx).ord.way.ro.len; omega))) (eda_cons (ed_ixLm (f := textD) (xs := textsOf N s0 x) ⟨0, []⟩ (ed_call (eda_cons (ed_var rfl) (eda_cons (ed_var rfl) (eda_cons (ed_var rfl) eda_nil))) (R_texts_by.mk (ho x hx))) ed_int (by decide) (by (have := (ho x hx).tlen; omega))) eda_nil)))))).to (by rfl)⟩)) eda_nil) rc_tuple_l) (by unfold postsD; rw [List.map_map]; rfl))))⟩
theorem ready_seal {N : Net} {s : Sec} {os : List Order} (hN : NetOk N) (h : ReadyOk N s os) : ∀ o ∈ os, SealOk N s o := fun o ho => ⟨hN, h.sec, h.ord.ok o ho, h.all o ho⟩
theorem route0 {N : Net} {o : Order} (hN : NetOk N) (h : OrderOk N o) : 0 ≤ o.ro.getD 0 0 ∧ o.ro.getD 0 0 < ((hostsBy N 0).length : Int) := by
  have hs1 := hN.s1
  have hl := h.way.ro.len
  cases e : o.ro with
  | nil => rw [e] at hl; simp at hl; omega
  | cons a r =>
    have hm : (a, 0) ∈ o.ro.zipIdx := by rw [e]; simp
    have h1 := h.way.ro.un a (by rw [e]; simp)
    have h2 := h.way.ro.st _ hm
    refine ⟨h1.1, ?_⟩
    show a < _
    unfold hostsBy
    rw [rng_len]
    cases e2 : N.st with
    | nil => rw [e2] at hs1; simp at hs1
    | cons s0 st =>
      show a < ((s0.length : Nat) : Int)
      by_cases c : a < (s0.length : Int)
      · exact c
      · exfalso
        unfold stageBy at h2
        rw [e2, List.zipIdx_cons, List.foldlM_cons] at h2
        have e' : stageT a 0 (s0, 0) = .ok (0 + (s0.length : Int)) := by unfold stageT turn; simp [c]
        rw [e'] at h2
        have hc := h1.2
        unfold hostCount at hc
        rw [e2, List.map_cons, List.sum_cons] at hc
        have h3 : ended ((st.zipIdx 1).foldlM (stageT a) (0 + (s0.length : Int))) .none = .int 0 := h2
        have key : ∀ (l : List (List Rule)) (k : Nat) (last : Int), 1 ≤ k → ended ((l.zipIdx k).foldlM (stageT a) last) .none ≠ .int 0 := by
          intro l
          induction l with
          | nil => intro k last hk z; cases z
          | cons q l ih =>
            intro k last hk z
            rw [List.zipIdx_cons, List.foldlM_cons] at z
            by_cases c2 : a < last + (q.length : Int)
            · have e3 : stageT a last (q, k) = .error (.int (k : Int)) := by unfold stageT turn; simp [c2]
              rw [e3] at z
              have : PyData.int (k : Int) = .int 0 := z
              injection this with this
              omega
            · have e3 : stageT a last (q, k) = .ok (last + (q.length : Int)) := by unfold stageT turn; simp [c2]
              rw [e3] at z
              exact ih (k + 1) _ (by omega) z
        exact key st 1 _ (Nat.le_refl 1) h3
theorem text_mem {N : Net} {s : Sec} {o : Order} {x : Text} (h : SealOk N s o) (hx : x ∈ textsOf N s o) : TextOk N x := by
  unfold textsOf at hx
  obtain ⟨p, hp, rfl⟩ := List.mem_map.mp hx
  have hz := List.of_mem_zip (a := p.1) (b := p.2) hp
  have ht := h.ord.way.tg p.1 hz.1
  have hb := h.bods _ hz.2
  exact ⟨ht.1, ht.2, hb.1, List.all_eq_true.mpr fun x hx => by have := hb.2 x hx; simpa using this⟩
theorem posts_ok {N : Net} {s : Sec} {os : List Order} (hN : NetOk N) (h : ReadyOk N s os) (hl : os.length ≤ 24) (ht : ∀ o ∈ os, o.t ≤ 79) : PsOk N s (os.map (postOf N s)) := by
  refine ⟨hN, h.sec, by rw [List.length_map]; exact hl, fun p hp => ?_⟩
  obtain ⟨o, ho, rfl⟩ := List.mem_map.mp hp
  have so := ready_seal hN h o ho
  have r0 := route0 hN so.ord
  have hs1 := hN.s1
  exact ⟨so.ord.t0, ht o ho, so.ord.w0, so.ord.wn, r0.1, r0.2, text_mem so (getD_mem (by rw [so.tlen]; omega))⟩
inductive R_postings_of : List PyData → Res → Prop
  | mk {N : Net} {s : Sec} {os : List Order} : NetOk N → os.length ≤ 100 → ReadyOk N s os → R_postings_of [netD N, secD s, ordersD os] (.val (postsD (os.map (postOf N s))))
theorem d_postings_of (T : Txt K mg) (h_need_ready : DefOk P w K mg base "need_ready" ["net", "secrets", "orders"] 9 R_need_ready) (h_postings_by : DefOk P w K mg base "postings_by" ["net", "secrets", "orders"] 5 R_postings_by) : DefOk P w K mg base "postings_of" ["net", "secrets", "orders"] 10 R_postings_of :=
  T.d_postings_of.ok sc_postings_of (by decide) (by intro ds r h; cases h <;> rfl) fun f cdv Ar outer s H E hr => ⟨_, (pss_cons (ps_expr (pe_callD h_need_ready (hr.mono (by decide)) (by rfl) passC (pa_cons (pv 0) (pa_cons (pv 1) (pa_cons (pv 2) pa_nil)))))
  (pss_one (ps_ret (pe_callD h_postings_by (hr.mono (by decide)) (by rfl) passL (pa_cons (pv 0) (pa_cons (pv 1) (pa_cons (pv 2) pa_nil))))))), fun ds r hR => by
    cases hR with
    | @mk N s0 os hN hl h =>
      exact .inl (show SD K E _ [.da (netD N), .da (secD s0), .da (ordersD os)] _ from (sd_seq (sd_drop (ed_call (eda_cons (ed_var rfl) (eda_cons (ed_var rfl) (eda_cons (ed_var rfl) eda_nil))) (R_need_ready.mk hN h)))
  (sd_ret (ED.to (ed_call (eda_cons (ed_var rfl) (eda_cons (ed_var rfl) (eda_cons (ed_var rfl) eda_nil))) (R_postings_by.mk hN hl (ready_seal hN h))) (by rfl)))))⟩
end
end Lw

set_option Elab.async false
set_option linter.all false
set_option maxRecDepth 100000
set_option maxHeartbeats 4000000
namespace Lw
open PySem PySem.Spec PyProof.Rows L2 D2
local macro_rules | `(tactic| walk_at "le") => `(tactic| ((try simp only [List.map_append, List.map_cons, List.map_nil]); repeat (first | exact trivial | exact Le.refl _ | refine And.intro (Or.inr rfl) ?_ | refine And.intro (Or.inl rfl) ?_)))
local macro_rules | `(tactic| walk_at "side") => `(tactic| first | rfl | assumption | omega | decide | (simp; done) | (simp; omega))
section
variable {P : Program} {w : World} {K : PySem.W.Frag} {mg : Str → Option Value} {base : Heap}
def lawMixed (c k : Int) : Int := ((c * 48271 + k * 69621 + 11) * 16807 + (c * 48271 + k * 69621 + 11) / 8191) % 2147483647
inductive R__law_mixed : List PyData → Res → Prop
  | mk {c k} : R__law_mixed [.int c, .int k] (.val (.int (lawMixed c k)))
theorem d__law_mixed (T : Txt K mg) : DefOk P w K mg base "_law_mixed" ["cell", "k"] 1 R__law_mixed :=
  T.d__law_mixed.ok sc__law_mixed (by decide) (by intro ds r h; cases h <;> rfl) fun f cdv Ar outer s H E hr => ⟨_, (pss_cons (ps_set (i := 2) sc__law_mixed.nd rfl (.inl rfl) (pe_op op_add (pe_op op_add (pe_op op_mul (pe_callTy call_int1 (by rfl) T.b_int (by decide +kernel) (pa_cons (pv 0) pa_nil)) pe_int) (pe_op op_mul (pv 1) pe_int)) pe_int))
  (pss_one (ps_ret (pe_op op_mod (pe_callTy call_int1 (by rfl) T.b_int (by decide +kernel) (pa_cons (pe_op op_add (pe_op op_mul (pv 2) pe_int) (pe_op op_fdivW (pv 2) pe_int)) pa_nil)) pe_int)))), fun ds r hR => by
    cases hR with
    | @mk c k =>
      exact .inl (show SD K E _ [.da (.int c), .da (.int k), .un] _ from (sd_seq (sd_set (ed_add (ed_add (ed_mul (ed_cb (eda_cons (ed_var rfl) eda_nil) rc_int) ed_int (by exact .inr (by decide))) (ed_mul (ed_var rfl) ed_int (by exact .inr (by decide)))) ed_int))
  (sd_ret (ED.to (ed_mod (ed_cb (eda_cons (ed_add (ed_mul (ed_var rfl) ed_int (by exact .inr (by decide))) (ed_fdiv (ed_var rfl) ed_int (by exact ⟨by decide, by decide +kernel⟩))) eda_nil) rc_int) ed_int (by walk_at "side" /-mod5-/)) (by rfl)))))⟩
def rowStep (c t : Int) (p : List Int × Int) (k : Int) : List Int × Int := if decide (1000000000000000000 ≤ c) = true then (p.1 ++ [p.2 % t], p.2 / t) else (p.1 ++ [lawMixed c k / 7 % t], p.2)
def lawRow (c n t : Int) : List Int := ((rng 0 n.toNat).foldl (rowStep c t) ([], c)).1
theorem rowStep_len (c t : Int) (p : List Int × Int) (k : Int) : (rowStep c t p k).1.length = p.1.length + 1 := by unfold rowStep; split <;> simp
theorem rowFold_len (c t : Int) : ∀ (ks : List Int) (p : List Int × Int), (ks.foldl (rowStep c t) p).1.length = p.1.length + ks.length
  | [], p => rfl
  | k :: ks, p => by rw [List.foldl_cons, rowFold_len c t ks, rowStep_len, List.length_cons]; omega
theorem rowFold_in (c t : Int) (ht : 0 < t) : ∀ (ks : List Int) (p : List Int × Int), (∀ x ∈ p.1, 0 ≤ x ∧ x < t) → ∀ x ∈ (ks.foldl (rowStep c t) p).1, 0 ≤ x ∧ x < t
  | [], p, h => h
  | k :: ks, p, h => by
    rw [List.foldl_cons]
    refine rowFold_in c t ht ks _ fun x hx => ?_
    unfold rowStep at hx
    split at hx
    · rcases List.mem_append.mp hx with hx | hx
      · exact h x hx
      · rw [List.mem_singleton.mp hx]; exact ⟨Int.emod_nonneg _ (by omega), Int.emod_lt_of_pos _ ht⟩
    · rcases List.mem_append.mp hx with hx | hx
      · exact h x hx
      · rw [List.mem_singleton.mp hx]; exact ⟨Int.emod_nonneg _ (by omega), Int.emod_lt_of_pos _ ht⟩
theorem lawRow_len (c n t : Int) : (lawRow c n t).length = n.toNat := by unfold lawRow; rw [rowFold_len, rng_len]; simp
theorem lawRow_in {c n t : Int} (ht : 0 < t) : ∀ x ∈ lawRow c n t, 0 ≤ x ∧ x < t := rowFold_in c t ht _ _ (fun _ h => by simp at h)
inductive R__law_row : List PyData → Res → Prop
  | mk {c n t} : 0 ≤ n → n ≤ 1000 → 0 < t → t < 1000000 → R__law_row [.int c, .int n, .int t] (.val (.list ((lawRow c n t).map .int)))
theorem div_small {a t : Int} (h0 : 0 < t) (h1 : t < 1000000) : CDivW a t := ⟨h0, by
  rw [Nat.log2_lt (by omega)]
  exact Nat.lt_of_lt_of_le (show t.natAbs < 2 ^ 20 by omega) (Nat.pow_le_pow_right (by decide) (by decide))⟩
theorem d__law_row (T : Txt K mg) (h__law_mixed : DefOk P w K mg base "_law_mixed" ["cell", "k"] 1 R__law_mixed) : DefOk P w K mg base "_law_row" ["cell", "many", "top"] 2 R__law_row :=
  T.d__law_row.ok sc__law_row (by decide) (by intro ds r h; cases h <;> rfl) fun f cdv Ar outer s H E hr => ⟨_, (pss_cons (ps_set (i := 3) sc__law_row.nd rfl (.inl rfl) (pe_lst pa_nil))
  (pss_cons (ps_set (i := 4) sc__law_row.nd rfl (.inl rfl) (pe_callTy call_int1 (by rfl) T.b_int (by decide +kernel) (pa_cons (pv 0) pa_nil)))
  (pss_cons (ps_set (i := 5) sc__law_row.nd rfl (.inl rfl) (pe_cmpR op_ge (pv 4) pe_int (nomark _)))
  (pss_cons (ps_for PW0 rfl (pi_range1 (by rfl) T.b_range (pa_cons (pv 1) pa_nil)) (pg_name (i := 6) sc__law_row.nd rfl (.inl rfl)) (pss_one (ps_if (pt_val (pv 5)) (pss_cons (ps_expr (pe_bm PySem.F.plainAttrs_list PySem.F.slot_list_append PySem.F.type_list_append mt_append (pv 3) (pa_cons (pe_op op_mod (pe_callTy call_int1 (by rfl) T.b_int (by decide +kernel) (pa_cons (pv 4) pa_nil)) (pv 2)) pa_nil)))
  (pss_one (ps_set (i := 4) sc__law_row.nd rfl (.inl rfl) (pe_op op_fdivW (pv 4) (pv 2))))) (pss_one (ps_expr (pe_bm PySem.F.plainAttrs_list PySem.F.slot_list_append PySem.F.type_list_append mt_append (pv 3) (pa_cons (pe_op op_mod (pe_op op_fdivW (pe_callD h__law_mixed (hr.mono (by decide)) (by rfl) passL (pa_cons (pv 0) (pa_cons (pv 6) pa_nil))) pe_int) (pv 2)) pa_nil)))))))
  (pss_one (ps_ret (pv 3))))))), fun ds r hR => by
    cases hR with
    | @mk c n t h0 h1 h2 h3 =>
      exact .inl (show SD K E _ [.da (.int c), .da (.int n), .da (.int t), .un, .un, .un, .un] _ from (sd_seq (sd_new eda_nil)
  (sd_seq (sd_set (ed_cb (eda_cons (ed_var rfl) eda_nil) rc_int))
  (sd_seq (sd_set (ed_ge (ed_var rfl) ed_int))
  (sd_seq (sd_for (S := fun p : List Int × Int => [.da (.int c), .da (.int n), .da (.int t), .ow (mlA K (p.1.map .int)), .da (.int p.2), .da (.bool (decide (1000000000000000000 ≤ c))), .un]) (step := rowStep c t) (b0 := ([], c)) (f := .int) (xs := rng 0 n.toNat) (it_rng1 (eda_cons (ed_var rfl) eda_nil) (by omega) (by omega)) (by walk_at "le") (fun pre post x hx => ⟨_, gs_name, .inl (sd_if (et_val (ed_var rfl)) (fun hb => (sd_seq (sd_append rfl (ed_mod (ed_cb (eda_cons (ed_var rfl) eda_nil) rc_int) (ed_var rfl) (by omega)) (by have := congrArg List.length hx; rw [rng_len] at this; simp at this; rw [List.length_map, rowFold_len]; show _ ≤ 1000000; simp; omega))
  (SD.weak (sd_set (ed_fdiv (ed_var rfl) (ed_var rfl) (by exact div_small h2 h3))) (by rw [rowStep, if_pos hb]; simp only [List.map_append, List.map_cons, List.map_nil]; walk_at "le")))) (fun hb => (SD.weak (sd_append rfl (ed_mod (ed_fdiv (ed_call (eda_cons (ed_var rfl) (eda_cons (ed_var rfl) eda_nil)) (R__law_mixed.mk)) ed_int (by exact ⟨by decide, by decide +kernel⟩)) (ed_var rfl) (by omega)) (by have := congrArg List.length hx; rw [rng_len] at this; simp at this; rw [List.length_map, rowFold_len]; show _ ≤ 1000000; simp; omega)) (by rw [rowStep, if_neg (by rw [hb]; exact Bool.false_ne_true)]; simp only [List.map_append, List.map_cons, List.map_nil]; walk_at "le"))))⟩))
  (sd_freeze 3 rfl (sd_ret (ED.to (ed_var rfl) (by rfl)))))))))⟩
def lawAt (ns : List Int) (k : Nat) : Int := if k < ns.length then ns.getD k 0 else 5 + 3 * (k : Int)
inductive R__law_at : List PyData → Res → Prop
  | mk {ns : List Int} {k : Nat} : R__law_at [scr ns, .int (k : Int)] (.val (.int (lawAt ns k)))
theorem d__law_at (T : Txt K mg) : DefOk P w K mg base "_law_at" ["script", "k"] 1 R__law_at :=
  T.d__law_at.ok sc__law_at (by decide) (by intro ds r h; cases h <;> rfl) fun f cdv Ar outer s H E hr => ⟨_, (pss_cons (ps_if (pt_cmpR op_lt (pv 1) (pe_callB (k_len (K := K)) (by rfl) T.b_len PySem.boot_len (pa_cons (pv 0) pa_nil)) (nomark _)) (pss_one (ps_ret (pe_callTy call_int1 (by rfl) T.b_int (by decide +kernel) (pa_cons (pe_ix (k_ixL (K := K)) (pv 0) (pv 1) (fun _ _ => rfl)) pa_nil)))) pss_nil)
  (pss_one (ps_ret (pe_op op_add pe_int (pe_op op_mul pe_int (pv 1)))))), fun ds r hR => by
    cases hR with
    | @mk ns k =>
      exact .inl (show SD K E _ [.da (scr ns), .da (.int (k : Int))] _ from (sd_ifs (et_cmp (ed_lt (ed_var rfl) (ed_cb (eda_cons (ed_var rfl) eda_nil) rc_lenS))) (fun hb => (sd_ret_seq (ED.to (ed_cb (eda_cons (ed_ixS (ed_var rfl) (ed_var rfl) (by exact ixN_nat (by simp at hb; omega)) (by exact getD_get (d := 0) (by simp at hb; omega))) eda_nil) rc_int) (by unfold lawAt; rw [if_pos (by simp at hb; omega)])))) (fun hb => (sd_nexts (sd_ret (ED.to (ed_add ed_int (ed_mul ed_int (ed_var rfl) (by exact .inl (by decide)))) (by unfold lawAt; rw [if_neg (by simp at hb; omega)])))))))⟩
inductive R__law_flag : List PyData → Res → Prop
  | mk {f d} : R__law_flag [.bool f, .bool d] (.val (.bool (decide (f = d))))
theorem d__law_flag (T : Txt K mg) : DefOk P w K mg base "_law_flag" ["found", "due"] 1 R__law_flag :=
  T.d__law_flag.ok sc__law_flag (by decide) (by intro ds r h; cases h <;> rfl) fun f cdv Ar outer s H E hr => ⟨_, (pss_cons (ps_if (pt_val (pv 1)) (pss_one (ps_ret (pe_cmpR op_isBl (pv 0) pe_bl (nomark _)))) pss_nil)
  (pss_one (ps_ret (pe_cmpR op_isBl (pv 0) pe_bl (nomark _))))), fun ds r hR => by
    cases hR with
    | @mk f d =>
      exact .inl (show SD K E _ [.da (.bool f), .da (.bool d)] _ from (sd_ifs (et_val (ed_var rfl)) (fun hb => (sd_ret_seq (ED.to (ed_isB (ed_var rfl) ed_bl) (by rw [hb])))) (fun hb => (sd_nexts (sd_ret (ED.to (ed_isB (ed_var rfl) ed_bl) (by rw [hb])))))))⟩
def lawRules : List Rule := [[([], 0)], [([.waiting 2], 0), ([.oldest 2], 0)], [([.tick 2 0], 0)], [([.tick 3 1], 0)], [([.waiting 3], 2), ([.oldest 3], 0)], [([.tick 4 3], 0)]]
inductive R__law_rules : List PyData → Res → Prop
  | mk : R__law_rules [] (.val (.list (lawRules.map ruleD)))
theorem d__law_rules (T : Txt K mg) : DefOk P w K mg base "_law_rules" [] 1 R__law_rules :=
  T.d__law_rules.ok sc__law_rules (by decide) (by intro ds r h; cases h <;> rfl) fun f cdv Ar outer s H E hr => ⟨_, (pss_one (ps_ret (pe_lst (pa_cons (pe_tup (pa_cons (pe_tup (pa_cons (pe_tup pa_nil) (pa_cons pe_int pa_nil))) pa_nil)) (pa_cons (pe_tup (pa_cons (pe_tup (pa_cons (pe_tup (pa_cons (pe_tup (pa_cons pe_str (pa_cons pe_int pa_nil))) pa_nil)) (pa_cons pe_int pa_nil))) (pa_cons (pe_tup (pa_cons (pe_tup (pa_cons (pe_tup (pa_cons pe_str (pa_cons pe_int pa_nil))) pa_nil)) (pa_cons pe_int pa_nil))) pa_nil))) (pa_cons (pe_tup (pa_cons (pe_tup (pa_cons (pe_tup (pa_cons (pe_tup (pa_cons pe_str (pa_cons pe_int (pa_cons pe_int pa_nil)))) pa_nil)) (pa_cons pe_int pa_nil))) pa_nil)) (pa_cons (pe_tup (pa_cons (pe_tup (pa_cons (pe_tup (pa_cons (pe_tup (pa_cons pe_str (pa_cons pe_int (pa_cons pe_int pa_nil)))) pa_nil)) (pa_cons pe_int pa_nil))) pa_nil)) (pa_cons (pe_tup (pa_cons (pe_tup (pa_cons (pe_tup (pa_cons (pe_tup (pa_cons pe_str (pa_cons pe_int pa_nil))) pa_nil)) (pa_cons pe_int pa_nil))) (pa_cons (pe_tup (pa_cons (pe_tup (pa_cons (pe_tup (pa_cons pe_str (pa_cons pe_int pa_nil))) pa_nil)) (pa_cons pe_int pa_nil))) pa_nil))) (pa_cons (pe_tup (pa_cons (pe_tup (pa_cons (pe_tup (pa_cons (pe_tup (pa_cons pe_str (pa_cons pe_int (pa_cons pe_int pa_nil)))) pa_nil)) (pa_cons pe_int pa_nil))) pa_nil)) pa_nil))))))))), fun ds r hR => by
    cases hR with
    | mk =>
      exact .inl (show SD K E _ [] _ from (sd_ret (ED.to (ed_lst (eda_cons (ed_tup (eda_cons (ed_tup (eda_cons (ed_tup eda_nil) (eda_cons ed_int eda_nil))) eda_nil)) (eda_cons (ed_tup (eda_cons (ed_tup (eda_cons (ed_tup (eda_cons (ed_tup (eda_cons ed_str (eda_cons ed_int eda_nil))) eda_nil)) (eda_cons ed_int eda_nil))) (eda_cons (ed_tup (eda_cons (ed_tup (eda_cons (ed_tup (eda_cons ed_str (eda_cons ed_int eda_nil))) eda_nil)) (eda_cons ed_int eda_nil))) eda_nil))) (eda_cons (ed_tup (eda_cons (ed_tup (eda_cons (ed_tup (eda_cons (ed_tup (eda_cons ed_str (eda_cons ed_int (eda_cons ed_int eda_nil)))) eda_nil)) (eda_cons ed_int eda_nil))) eda_nil)) (eda_cons (ed_tup (eda_cons (ed_tup (eda_cons (ed_tup (eda_cons (ed_tup (eda_cons ed_str (eda_cons ed_int (eda_cons ed_int eda_nil)))) eda_nil)) (eda_cons ed_int eda_nil))) eda_nil)) (eda_cons (ed_tup (eda_cons (ed_tup (eda_cons (ed_tup (eda_cons (ed_tup (eda_cons ed_str (eda_cons ed_int eda_nil))) eda_nil)) (eda_cons ed_int eda_nil))) (eda_cons (ed_tup (eda_cons (ed_tup (eda_cons (ed_tup (eda_cons ed_str (eda_cons ed_int eda_nil))) eda_nil)) (eda_cons ed_int eda_nil))) eda_nil))) (eda_cons (ed_tup (eda_cons (ed_tup (eda_cons (ed_tup (eda_cons (ed_tup (eda_cons ed_str (eda_cons ed_int (eda_cons ed_int eda_nil)))) eda_nil)) (eda_cons ed_int eda_nil))) eda_nil)) eda_nil))))))) (by rfl))))⟩
inductive R__law_hosts : List PyData → Res → Prop
  | mk {N : Net} {k : Int} : NetOk N → 0 ≤ k → k < N.st.length → R__law_hosts [netD N, .int k] (.val (.list ((hostsBy N k.toNat).map .int)))
theorem d__law_hosts (T : Txt K mg) : DefOk P w K mg base "_law_hosts" ["net", "stage"] 1 R__law_hosts :=
  T.d__law_hosts.ok sc__law_hosts (by decide) (by intro ds r h; cases h <;> rfl) fun f cdv Ar outer s H E hr => ⟨_, (pss_cons (ps_set (i := 2) sc__law_hosts.nd rfl (.inl rfl) (pe_callB (k_sum (K := K)) (by rfl) T.b_sum (by decide +kernel) (pa_cons (pe_lc (own := [("one", 3)]) (g := (gName 3)) (tt := tYes) rfl sc__law_hosts.nd (k_tup (K := K) (pe_slice (k_slT (K := K)) (pe_ix (k_ixT (K := K)) (pv 0) pe_int (fun _ _ => rfl)) po_none (po_some (pv 1)))) (blkOk_by (N := N__law_hosts) (sc := defScope st__law_hosts) (by decide +kernel)) (fun _ _ _ _ _ => (pg_name (i := 3) sc__law_hosts.nd rfl (.inl rfl))) (fun _ _ _ _ _ => pts_nil) (fun _ _ _ _ _ => (pe_callB (k_len (K := K)) (by rfl) T.b_len PySem.boot_len (pa_cons (pv 3) pa_nil)))) pa_nil)))
  (pss_one (ps_ret (pe_listRg rfl (by rfl) T.b_list (prg_2 (by rfl) T.b_range (pv 2) (pe_op op_add (pv 2) (pe_callB (k_len (K := K)) (by rfl) T.b_len PySem.boot_len (pa_cons (pe_ix (k_ixT (K := K)) (pe_ix (k_ixT (K := K)) (pv 0) pe_int (fun _ _ => rfl)) (pv 1) (fun _ _ => rfl)) pa_nil)))))))), fun ds r hR => by
    cases hR with
    | @mk N k h h0 h1 =>
      have hf := first_in h k.toNat
      have hs := h.h3 (N.st.getD k.toNat []) (getD_mem (by omega))
      exact .inl (show SD K E _ [.da (netD N), .da (.int k), .un, .un] _ from (sd_seq (sd_set (ED.to (ed_cb (eda_cons (ed_lc_map (f := stageD) (xs := N.st.take k.toNat) (it_tup (ED.to (ed_slT (ed_ixT (ed_var rfl) ed_int rfl rfl) edo_none (edo_some (ed_var rfl))) (by exact (show PyData.tuple (cutD (N.st.map stageD) none (some k)) = .tuple ((N.st.take k.toNat).map stageD) by rw [cutD_to _ h0, List.map_take])))) (by have := h.s3; have : LIM = 1000000 := rfl; rw [List.length_take]; omega) (fun x hx => ⟨_, (gd_name (by decide)), ((ed_cb (eda_cons (ed_var rfl) eda_nil) rc_lenT)).to (by exact (show PyData.int _ = .int _ by rw [List.length_map]))⟩)) eda_nil) rc_summ) (by exact (show PyData.int _ = .int (firstOf N k.toNat) from rfl))))
  (sd_ret (ED.to (ed_listRg (ed_var rfl) (ed_add (ed_var rfl) (ed_cb (eda_cons (ed_ixTm (f := stageD) [] (ed_ixT (ed_var rfl) ed_int rfl rfl) (ed_var rfl) (by exact h0) (by exact h1)) eda_nil) rc_lenT)) (by exact hf.1) (by omega) (by rw [List.length_map]; omega) (by rw [List.length_map]; omega)) (by rw [List.length_map]; unfold hostsBy; congr 3; omega)))))⟩
def digN (c i : Int) : Int := (lawRow c 12 60).getD i.toNat 0
def stagesN (c : Int) : Int := ([1, 2, 2, 3] : List Int).getD (digN c 0 % 4).toNat 0
def hostsN1 (c k : Int) : Int := ([1, 1, 2] : List Int).getD (digN c (8 + k) % 3).toNat 0
def stageN (c k : Int) : List Rule := (rng 0 (hostsN1 c k).toNat).map fun j => lawRules.getD (digN c (2 + 3 * k + j) % 6).toNat []
def lawNet (c : Int) : Net := ⟨2 + digN c 1 % 4, (rng 0 (stagesN c).toNat).map (stageN c), 1 + digN c 11 % 3⟩
theorem foldl_snoc {α β : Type} (f : α → β) : ∀ (xs : List α) (acc : List β), xs.foldl (fun ps x => ps ++ [f x]) acc = acc ++ xs.map f
  | [], acc => by simp
  | x :: xs, acc => by rw [List.foldl_cons, foldl_snoc f xs]; simp
theorem stageD_eq (c k : Int) : stageD (stageN c k) = .tuple ((rng 0 (hostsN1 c k).toNat).map fun j => ruleD (lawRules.getD (digN c (2 + 3 * k + j) % 6).toNat [])) := by
  unfold stageD stageN
  rw [List.map_map]; rfl
theorem stagesN_in (c : Int) : 1 ≤ stagesN c ∧ stagesN c ≤ 3 := by
  unfold stagesN
  have : (digN c 0 % 4).toNat < 4 := by omega
  generalize (digN c 0 % 4).toNat = n at *
  match n, this with
  | 0, _ => decide
  | 1, _ => decide
  | 2, _ => decide
  | 3, _ => decide
theorem hostsN1_in (c k : Int) : 1 ≤ hostsN1 c k ∧ hostsN1 c k ≤ 2 := by
  unfold hostsN1
  have : (digN c (8 + k) % 3).toNat < 3 := by omega
  generalize (digN c (8 + k) % 3).toNat = n at *
  match n, this with
  | 0, _ => decide
  | 1, _ => decide
  | 2, _ => decide
inductive R__law_net : List PyData → Res → Prop
  | mk {c : Int} : R__law_net [.int c] (.val (netD (lawNet c)))
theorem d__law_net (T : Txt K mg) (h__law_row : DefOk P w K mg base "_law_row" ["cell", "many", "top"] 2 R__law_row) (h__law_rules : DefOk P w K mg base "_law_rules" [] 1 R__law_rules) : DefOk P w K mg base "_law_net" ["cell"] 3 R__law_net :=
  T.d__law_net.ok sc__law_net (by decide) (by intro ds r h; cases h <;> rfl) fun f cdv Ar outer s H E hr => ⟨_, (pss_cons (ps_set (i := 1) sc__law_net.nd rfl (.inr rfl) (pe_callD h__law_row (hr.mono (by decide)) (by rfl) passL (pa_cons (pv 0) (pa_cons pe_int (pa_cons pe_int pa_nil)))))
  (pss_cons (ps_set (i := 2) sc__law_net.nd rfl (.inr rfl) (pe_callD0 h__law_rules (hr.mono (by decide)) (by rfl) passL))
  (pss_cons (ps_set (i := 3) sc__law_net.nd rfl (.inl rfl) (pe_lst pa_nil))
  (pss_cons (ps_for PW0 rfl (pi_range1 (by rfl) T.b_range (pa_cons (pe_ix (k_ixL (K := K)) (pe_lst (pa_cons pe_int (pa_cons pe_int (pa_cons pe_int (pa_cons pe_int pa_nil))))) (pe_op op_mod (pe_ix (k_ixL (K := K)) (pv 1) pe_int (fun _ _ => rfl)) pe_int) (fun _ _ => rfl)) pa_nil)) (pg_name (i := 4) sc__law_net.nd rfl (.inr rfl)) (pss_one (ps_expr (pe_bm PySem.F.plainAttrs_list PySem.F.slot_list_append PySem.F.type_list_append mt_append (pv 3) (pa_cons (pe_callTy (k_tupOf (K := K)) (by rfl) T.b_tuple (by decide +kernel) (pa_cons (pe_lc (own := [("j", 5)]) (g := (gName 5)) (tt := tYes) rfl sc__law_net.nd (pi_range1 (by rfl) T.b_range (pa_cons (pe_ix (k_ixL (K := K)) (pe_lst (pa_cons pe_int (pa_cons pe_int (pa_cons pe_int pa_nil)))) (pe_op op_mod (pe_ix (k_ixL (K := K)) (pv 1) (pe_op op_add pe_int (pv 4)) (fun _ _ => rfl)) pe_int) (fun _ _ => rfl)) pa_nil)) (blkOk_by (N := N__law_net) (sc := defScope st__law_net) (by decide +kernel)) (fun _ _ _ _ _ => (pg_name (i := 5) sc__law_net.nd rfl (.inl rfl))) (fun _ _ _ _ _ => pts_nil) (fun _ _ _ _ _ => (pe_ix (k_ixL (K := K)) (pv 2) (pe_op op_mod (pe_ix (k_ixL (K := K)) (pv 1) (pe_op op_add (pe_op op_add pe_int (pe_op op_mul pe_int (pv 4))) (pv 5)) (fun _ _ => rfl)) pe_int) (fun _ _ => rfl)))) pa_nil)) pa_nil)))))
  (pss_one (ps_ret (pe_tup (pa_cons (pe_op op_add pe_int (pe_op op_mod (pe_ix (k_ixL (K := K)) (pv 1) pe_int (fun _ _ => rfl)) pe_int)) (pa_cons (pe_callTy (k_tupOf (K := K)) (by rfl) T.b_tuple (by decide +kernel) (pa_cons (pv 3) pa_nil)) (pa_cons (pe_op op_add pe_int (pe_op op_mod (pe_ix (k_ixL (K := K)) (pv 1) pe_int (fun _ _ => rfl)) pe_int)) pa_nil)))))))))), fun ds r hR => by
    cases hR with
    | @mk c =>
      have hl : (lawRow c 12 60).length = 12 := lawRow_len c 12 60
      have hs := stagesN_in c
      have hLIM : LIM = 1000000 := rfl
      exact .inl (show SD K E _ [.da (.int c), .un, .un, .un, .un, .un] _ from (sd_seq (sd_set (ed_call (eda_cons (ed_var rfl) (eda_cons ed_int (eda_cons ed_int eda_nil))) (R__law_row.mk (by walk_at "side" /-c__law_row1-/) (by walk_at "side" /-c__law_row2-/) (by walk_at "side" /-c__law_row3-/) (by walk_at "side" /-c__law_row4-/))))
  (sd_seq (sd_set (ed_call eda_nil (R__law_rules.mk)))
  (sd_seq (sd_new eda_nil)
  (sd_seq (sd_for (S := fun ss : List (List Rule) => [.da (.int c), .da (.list ((lawRow c 12 60).map .int)), .da (.list (lawRules.map ruleD)), .ow (mlA K (ss.map stageD)), .un, .un]) (step := fun ss k => ss ++ [stageN c k]) (b0 := []) (f := .int) (xs := rng 0 (stagesN c).toNat) (it_rng1 (eda_cons (ed_ixLi (ED.to (ed_lst (eda_cons ed_int (eda_cons ed_int (eda_cons ed_int (eda_cons ed_int eda_nil))))) (show PyData.list _ = .list (([1, 2, 2, 3] : List Int).map .int) from rfl)) (ed_mod (ed_ixLi (ed_var rfl) ed_int (by decide) (by omega)) ed_int (by omega)) (by omega) (by exact (show _ < ((4 : Nat) : Int) by omega))) eda_nil) (by exact (show _ ≤ stagesN c by omega)) (by exact (show stagesN c < _ by omega))) (by walk_at "le") (fun pre post x hx => ⟨_, gs_name, .inl (SD.weak (sd_append rfl (ed_cb (eda_cons (ed_lc_map (f := .int) (xs := rng 0 (hostsN1 c x).toNat) (h := fun j => ruleD (lawRules.getD (digN c (2 + 3 * x + j) % 6).toNat [])) (it_rng1 (eda_cons (ed_ixLi (ED.to (ed_lst (eda_cons ed_int (eda_cons ed_int (eda_cons ed_int eda_nil)))) (show PyData.list _ = .list (([1, 1, 2] : List Int).map .int) from rfl)) (ed_mod (ed_ixLi (ed_var rfl) (ed_add ed_int (ed_var rfl)) (by have := rng_at hx; omega) (by have := rng_at hx; omega)) ed_int (by omega)) (by omega) (by exact (show _ < ((3 : Nat) : Int) by omega))) eda_nil) (by have := hostsN1_in c x; exact (show _ ≤ hostsN1 c x by omega)) (by have := hostsN1_in c x; exact (show hostsN1 c x < _ by omega))) (by have := hostsN1_in c x; rw [rng_len]; omega) (fun z hz => ⟨_, (gd_name (by decide)), ((ed_ixLm (f := ruleD) (xs := lawRules) [] (ed_var rfl) (ed_mod (ed_ixLi (ed_var rfl) (ed_add (ed_add ed_int (ed_mul ed_int (ed_var rfl) (by exact .inl (by decide)))) (ed_var rfl)) (by have := rng_at hx; have := k_rng hz; omega) (by have := rng_at hx; have := k_rng hz; have := hostsN1_in c x; omega)) ed_int (by omega)) (by omega) (by exact (show _ < ((6 : Nat) : Int) by omega)))).to (by rfl)⟩)) eda_nil) rc_tuple_l) (by have := rng_at hx; rw [foldl_snoc, List.length_map, List.length_append, List.length_map]; simp; omega)) (by simp only [List.map_append, List.map_cons, List.map_nil, stageD_eq]; walk_at "le"))⟩))
  (sd_freeze 3 rfl (sd_ret (ED.to (ed_tup (eda_cons (ed_add ed_int (ed_mod (ed_ixLi (ed_var rfl) ed_int (by decide) (by omega)) ed_int (by omega))) (eda_cons (ed_cb (eda_cons (ed_var rfl) eda_nil) rc_tuple_l) (eda_cons (ed_add ed_int (ed_mod (ed_ixLi (ed_var rfl) ed_int (by decide) (by omega)) ed_int (by omega))) eda_nil)))) (by rw [foldl_snoc, List.nil_append]; rfl)))))))))⟩
def digO (c most i : Int) : Int := (lawRow c (2 * most + 1) 60).getD i.toNat 0
def marO (m most i : Int) : Int := (lawRow m (9 * most) 97).getD i.toNat 0
def lawRoute (m most : Int) (N : Net) (k : Int) : List Int := (rng 0 N.st.length).map fun j => (hostsBy N j.toNat).getD (marO m most (9 * k + j) % ((N.st.getD j.toNat []).length : Int)).toNat 0
def lawTags (m most : Int) (N : Net) (k : Int) : List Int := (rng 0 (N.st.length + 1)).map fun j => 100 * k + 10 * j + marO m most (9 * k + 3 + j % 3) % 10
def lawCont (m most : Int) (N : Net) (k : Int) : List Int := (rng 0 N.w.toNat).map fun j => marO m most (9 * k + 6 + j)
def lawOrder (c m most : Int) (N : Net) (k : Int) : Order := ⟨digO c most (1 + 2 * k) % 4, digO c most (2 + 2 * k) % N.n, lawRoute m most N k, marO m most (9 * k + 5) % N.n, lawTags m most N k, lawCont m most N k⟩
def lawOrders (c m most : Int) (N : Net) : List Order := (rng 0 (digO c most 0 % (most + 1)).toNat).map (lawOrder c m most N)
theorem order_eq (c m most : Int) (N : Net) (k : Int) : orderD (lawOrder c m most N k) = .tuple [.int (digO c most (1 + 2 * k) % 4), .int (digO c most (2 + 2 * k) % N.n), .tuple ((rng 0 N.st.length).map fun j => .int ((hostsBy N j.toNat).getD (marO m most (9 * k + j) % ((N.st.getD j.toNat []).length : Int)).toNat 0)), .int (marO m most (9 * k + 5) % N.n), .tuple ((rng 0 (N.st.length + 1)).map fun j => .int (100 * k + 10 * j + marO m most (9 * k + 3 + j % 3) % 10)), .tuple ((rng 0 N.w.toNat).map fun j => .int (marO m most (9 * k + 6 + j)))] := by
  unfold orderD lawOrder lawRoute lawTags lawCont tupI
  simp only [List.map_map]
  rfl
inductive R__law_orders : List PyData → Res → Prop
  | mk {c m most : Int} {N : Net} : NetOk N → N.w ≤ 3 → 0 ≤ most → most ≤ 100 → R__law_orders [.int c, .int m, netD N, .int most] (.val (ordersD (lawOrders c m most N)))
theorem d__law_orders (T : Txt K mg) (h__law_hosts : DefOk P w K mg base "_law_hosts" ["net", "stage"] 1 R__law_hosts) (h__law_row : DefOk P w K mg base "_law_row" ["cell", "many", "top"] 2 R__law_row) : DefOk P w K mg base "_law_orders" ["cell", "more", "net", "most"] 3 R__law_orders :=
  T.d__law_orders.ok sc__law_orders (by decide) (by intro ds r h; cases h <;> rfl) fun f cdv Ar outer s H E hr => ⟨_, (pss_cons (ps_set (i := 4) sc__law_orders.nd rfl (.inl rfl) (pe_callD h__law_row (hr.mono (by decide)) (by rfl) passL (pa_cons (pv 0) (pa_cons (pe_op op_add (pe_op op_mul pe_int (pv 3)) pe_int) (pa_cons pe_int pa_nil)))))
  (pss_cons (ps_set (i := 5) sc__law_orders.nd rfl (.inr rfl) (pe_callD h__law_row (hr.mono (by decide)) (by rfl) passL (pa_cons (pv 1) (pa_cons (pe_op op_mul pe_int (pv 3)) (pa_cons pe_int pa_nil)))))
  (pss_cons (ps_set (i := 6) sc__law_orders.nd rfl (.inl rfl) (pe_lst pa_nil))
  (pss_cons (ps_for PW0 rfl (pi_range1 (by rfl) T.b_range (pa_cons (pe_op op_mod (pe_ix (k_ixL (K := K)) (pv 4) pe_int (fun _ _ => rfl)) (pe_op op_add (pv 3) pe_int)) pa_nil)) (pg_name (i := 7) sc__law_orders.nd rfl (.inr rfl)) (pss_cons (ps_set (i := 8) sc__law_orders.nd rfl (.inl rfl) (pe_callTy (k_tupOf (K := K)) (by rfl) T.b_tuple (by decide +kernel) (pa_cons (pe_lc (own := [("j", 11)]) (g := (gName 11)) (tt := tYes) rfl sc__law_orders.nd (pi_range1 (by rfl) T.b_range (pa_cons (pe_callB (k_len (K := K)) (by rfl) T.b_len PySem.boot_len (pa_cons (pe_ix (k_ixT (K := K)) (pv 2) pe_int (fun _ _ => rfl)) pa_nil)) pa_nil)) (blkOk_by (N := N__law_orders) (sc := defScope st__law_orders) (by decide +kernel)) (fun _ _ _ _ _ => (pg_name (i := 11) sc__law_orders.nd rfl (.inl rfl))) (fun _ _ _ _ _ => pts_nil) (fun _ _ _ _ _ => (pe_ix (k_ixL (K := K)) (pe_callD h__law_hosts (hr.mono (by decide)) (by rfl) passL (pa_cons (pv 2) (pa_cons (pv 11) pa_nil))) (pe_op op_mod (pe_ix (k_ixL (K := K)) (pv 5) (pe_op op_add (pe_op op_mul pe_int (pv 7)) (pv 11)) (fun _ _ => rfl)) (pe_callB (k_len (K := K)) (by rfl) T.b_len PySem.boot_len (pa_cons (pe_ix (k_ixT (K := K)) (pe_ix (k_ixT (K := K)) (pv 2) pe_int (fun _ _ => rfl)) (pv 11) (fun _ _ => rfl)) pa_nil))) (fun _ _ => rfl)))) pa_nil)))
  (pss_cons (ps_set (i := 9) sc__law_orders.nd rfl (.inl rfl) (pe_callTy (k_tupOf (K := K)) (by rfl) T.b_tuple (by decide +kernel) (pa_cons (pe_lc (own := [("j", 11)]) (g := (gName 11)) (tt := tYes) rfl sc__law_orders.nd (pi_range1 (by rfl) T.b_range (pa_cons (pe_op op_add (pe_callB (k_len (K := K)) (by rfl) T.b_len PySem.boot_len (pa_cons (pe_ix (k_ixT (K := K)) (pv 2) pe_int (fun _ _ => rfl)) pa_nil)) pe_int) pa_nil)) (blkOk_by (N := N__law_orders) (sc := defScope st__law_orders) (by decide +kernel)) (fun _ _ _ _ _ => (pg_name (i := 11) sc__law_orders.nd rfl (.inl rfl))) (fun _ _ _ _ _ => pts_nil) (fun _ _ _ _ _ => (pe_op op_add (pe_op op_add (pe_op op_mul pe_int (pv 7)) (pe_op op_mul pe_int (pv 11))) (pe_op op_mod (pe_ix (k_ixL (K := K)) (pv 5) (pe_op op_add (pe_op op_add (pe_op op_mul pe_int (pv 7)) pe_int) (pe_op op_mod (pv 11) pe_int)) (fun _ _ => rfl)) pe_int)))) pa_nil)))
  (pss_cons (ps_set (i := 10) sc__law_orders.nd rfl (.inl rfl) (pe_callTy (k_tupOf (K := K)) (by rfl) T.b_tuple (by decide +kernel) (pa_cons (pe_lc (own := [("j", 11)]) (g := (gName 11)) (tt := tYes) rfl sc__law_orders.nd (pi_range1 (by rfl) T.b_range (pa_cons (pe_ix (k_ixT (K := K)) (pv 2) pe_int (fun _ _ => rfl)) pa_nil)) (blkOk_by (N := N__law_orders) (sc := defScope st__law_orders) (by decide +kernel)) (fun _ _ _ _ _ => (pg_name (i := 11) sc__law_orders.nd rfl (.inl rfl))) (fun _ _ _ _ _ => pts_nil) (fun _ _ _ _ _ => (pe_ix (k_ixL (K := K)) (pv 5) (pe_op op_add (pe_op op_add (pe_op op_mul pe_int (pv 7)) pe_int) (pv 11)) (fun _ _ => rfl)))) pa_nil)))
  (pss_one (ps_expr (pe_bm PySem.F.plainAttrs_list PySem.F.slot_list_append PySem.F.type_list_append mt_append (pv 6) (pa_cons (pe_tup (pa_cons (pe_op op_mod (pe_ix (k_ixL (K := K)) (pv 4) (pe_op op_add pe_int (pe_op op_mul pe_int (pv 7))) (fun _ _ => rfl)) pe_int) (pa_cons (pe_op op_mod (pe_ix (k_ixL (K := K)) (pv 4) (pe_op op_add pe_int (pe_op op_mul pe_int (pv 7))) (fun _ _ => rfl)) (pe_ix (k_ixT (K := K)) (pv 2) pe_int (fun _ _ => rfl))) (pa_cons (pv 8) (pa_cons (pe_op op_mod (pe_ix (k_ixL (K := K)) (pv 5) (pe_op op_add (pe_op op_mul pe_int (pv 7)) pe_int) (fun _ _ => rfl)) (pe_ix (k_ixT (K := K)) (pv 2) pe_int (fun _ _ => rfl))) (pa_cons (pv 9) (pa_cons (pv 10) pa_nil))))))) pa_nil))))))))
  (pss_one (ps_ret (pe_callTy (k_tupOf (K := K)) (by rfl) T.b_tuple (by decide +kernel) (pa_cons (pv 6) pa_nil)))))))), fun ds r hR => by
    cases hR with
    | @mk c m most N hN hw h0 h1 =>
      have hl : (lawRow c (2 * most + 1) 60).length = (2 * most + 1).toNat := lawRow_len ..
      have hm : (lawRow m (9 * most) 97).length = (9 * most).toNat := lawRow_len ..
      have h2 := hN.n2
      have hs3 := hN.s3
      have hw1 := hN.w1
      have hLIM : LIM = 1000000 := rfl
      have hq0 : 0 ≤ digO c most 0 % (most + 1) ∧ digO c most 0 % (most + 1) < most + 1 := ⟨Int.emod_nonneg _ (by omega), Int.emod_lt_of_pos _ (by omega)⟩
      have hst : ∀ z ∈ rng 0 ((N.st.map stageD).length : Int).toNat, 0 ≤ z ∧ z < N.st.length ∧ 0 < ((N.st.getD z.toNat []).length : Int) := fun z hz => by have h5 := k_rng hz; rw [List.length_map] at h5; have h6 := hN.h1 _ (getD_mem (d := []) (xs := N.st) (k := z.toNat) (by omega)); omega
      exact .inl (show SD K E _ [.da (.int c), .da (.int m), .da (netD N), .da (.int most), .un, .un, .un, .un, .un, .un, .un, .un] _ from (sd_seq (sd_set (ed_call (eda_cons (ed_var rfl) (eda_cons (ed_add (ed_mul ed_int (ed_var rfl) (by exact .inl (by decide))) ed_int) (eda_cons ed_int eda_nil))) (R__law_row.mk (by walk_at "side" /-c__law_row2-/) (by walk_at "side" /-c__law_row3-/) (by walk_at "side" /-c__law_row4-/) (by walk_at "side" /-c__law_row5-/))))
  (sd_seq (sd_set (ed_call (eda_cons (ed_var rfl) (eda_cons (ed_mul ed_int (ed_var rfl) (by exact .inl (by decide))) (eda_cons ed_int eda_nil))) (R__law_row.mk (by walk_at "side" /-c__law_row7-/) (by walk_at "side" /-c__law_row8-/) (by walk_at "side" /-c__law_row9-/) (by walk_at "side" /-c__law_row10-/))))
  (sd_seq (sd_new eda_nil)
  (sd_seq (sd_for (S := fun os : List Order => [.da (.int c), .da (.int m), .da (netD N), .da (.int most), .da (.list ((lawRow c (2 * most + 1) 60).map .int)), .da (.list ((lawRow m (9 * most) 97).map .int)), .ow (mlA K (os.map orderD)), .un, .un, .un, .un, .un]) (step := fun os k => os ++ [lawOrder c m most N k]) (b0 := []) (f := .int) (xs := rng 0 (digO c most 0 % (most + 1)).toNat) (it_rng1 (eda_cons (ed_mod (ed_ixLi (ed_var rfl) ed_int (by decide) (by omega)) (ed_add (ed_var rfl) ed_int) (by omega)) eda_nil) (by exact (show _ ≤ digO c most 0 % (most + 1) by omega)) (by exact (show digO c most 0 % (most + 1) < _ by omega))) (by walk_at "le") (fun pre post x hx => ⟨_, gs_name, .inl (sd_seq (sd_set (ED.to (ed_cb (eda_cons (ed_lc_map (f := .int) (xs := rng 0 ((N.st.map stageD).length : Int).toNat) (h := fun j => .int ((hostsBy N j.toNat).getD (marO m most (9 * x + j) % ((N.st.getD j.toNat []).length : Int)).toNat 0)) (it_rng1 (eda_cons (ed_cb (eda_cons (ed_ixT (ed_var rfl) ed_int rfl rfl) eda_nil) rc_lenT) eda_nil) (by rw [List.length_map]; omega) (by rw [List.length_map]; omega)) (by rw [rng_len, List.length_map]; omega) (fun z hz => ⟨_, (gd_name (by decide)), ((ed_ixLi (ed_call (eda_cons (ed_var rfl) (eda_cons (ed_var rfl) eda_nil)) (R__law_hosts.mk hN (hst z hz).1 (hst z hz).2.1)) (ed_mod (ed_ixLi (ed_var rfl) (ed_add (ed_mul ed_int (ed_var rfl) (by exact .inl (by decide))) (ed_var rfl)) (by have := rng_at hx; have := k_rng hz; omega) (by have := rng_at hx; have := hst z hz; omega)) (ed_cb (eda_cons (ed_ixTm (f := stageD) (xs := N.st) [] (ed_ixT (ed_var rfl) ed_int rfl rfl) (ed_var rfl) (by exact (hst z hz).1) (by exact (hst z hz).2.1)) eda_nil) rc_lenT) (by rw [List.length_map]; exact (hst z hz).2.2)) (by rw [List.length_map]; exact Int.emod_nonneg _ (by have := (hst z hz).2.2; omega)) (by unfold hostsBy; rw [rng_len, List.length_map]; exact Int.emod_lt_of_pos _ (hst z hz).2.2))).to (by exact (show PyData.int _ = .int _ by rw [List.length_map]; rfl))⟩)) eda_nil) rc_tuple_l) (by exact (show PyData.tuple _ = tupI (lawRoute m most N x) by unfold lawRoute tupI; rw [List.map_map, List.length_map]; rfl))))
  (sd_seq (sd_set (ED.to (ed_cb (eda_cons (ed_lc_map (f := .int) (xs := rng 0 (((N.st.map stageD).length : Int) + 1).toNat) (h := fun j => .int (100 * x + 10 * j + marO m most (9 * x + 3 + j % 3) % 10)) (it_rng1 (eda_cons (ed_add (ed_cb (eda_cons (ed_ixT (ed_var rfl) ed_int rfl rfl) eda_nil) rc_lenT) ed_int) eda_nil) (by rw [List.length_map]; omega) (by rw [List.length_map]; omega)) (by rw [rng_len, List.length_map]; omega) (fun z hz => ⟨_, (gd_name (by decide)), ((ed_add (ed_add (ed_mul ed_int (ed_var rfl) (by exact .inl (by decide))) (ed_mul ed_int (ed_var rfl) (by exact .inl (by decide)))) (ed_mod (ed_ixLi (ed_var rfl) (ed_add (ed_add (ed_mul ed_int (ed_var rfl) (by exact .inl (by decide))) ed_int) (ed_mod (ed_var rfl) ed_int (by omega))) (by have := rng_at hx; have := k_rng hz; omega) (by have := rng_at hx; omega)) ed_int (by omega)))).to (by rfl)⟩)) eda_nil) rc_tuple_l) (by exact (show PyData.tuple _ = tupI (lawTags m most N x) by unfold lawTags tupI; rw [List.map_map, List.length_map, show ((N.st.length : Int) + 1).toNat = N.st.length + 1 by omega]; rfl))))
  (sd_seq (sd_set (ED.to (ed_cb (eda_cons (ed_lc_map (f := .int) (xs := rng 0 N.w.toNat) (h := fun j => .int (marO m most (9 * x + 6 + j))) (it_rng1 (eda_cons (ed_ixT (ed_var rfl) ed_int rfl rfl) eda_nil) (by omega) (by omega)) (by rw [rng_len]; omega) (fun z hz => ⟨_, (gd_name (by decide)), ((ed_ixLi (ed_var rfl) (ed_add (ed_add (ed_mul ed_int (ed_var rfl) (by exact .inl (by decide))) ed_int) (ed_var rfl)) (by have := rng_at hx; have := k_rng hz; omega) (by have := rng_at hx; have := k_rng hz; omega))).to (by rfl)⟩)) eda_nil) rc_tuple_l) (by exact (show PyData.tuple _ = tupI (lawCont m most N x) by unfold lawCont tupI; rw [List.map_map]; rfl))))
  (SD.weak (sd_append rfl (ed_tup (eda_cons (ed_mod (ed_ixLi (ed_var rfl) (ed_add ed_int (ed_mul ed_int (ed_var rfl) (by exact .inl (by decide)))) (by have := rng_at hx; omega) (by have := rng_at hx; omega)) ed_int (by omega)) (eda_cons (ed_mod (ed_ixLi (ed_var rfl) (ed_add ed_int (ed_mul ed_int (ed_var rfl) (by exact .inl (by decide)))) (by have := rng_at hx; omega) (by have := rng_at hx; omega)) (ed_ixT (ed_var rfl) ed_int rfl rfl) (by omega)) (eda_cons (ed_var rfl) (eda_cons (ed_mod (ed_ixLi (ed_var rfl) (ed_add (ed_mul ed_int (ed_var rfl) (by exact .inl (by decide))) ed_int) (by have := rng_at hx; omega) (by have := rng_at hx; omega)) (ed_ixT (ed_var rfl) ed_int rfl rfl) (by omega)) (eda_cons (ed_var rfl) (eda_cons (ed_var rfl) eda_nil))))))) (by have := rng_at hx; rw [foldl_snoc, List.length_map, List.length_append, List.length_map]; simp; omega)) (by walk_at "le")))))⟩))
  (sd_freeze 6 rfl (sd_ret (ED.to (ed_cb (eda_cons (ed_var rfl) eda_nil) rc_tuple_l) (by rw [foldl_snoc, List.nil_append]; rfl)))))))))⟩
def wayD (o : Order) : PyData := .tuple [.int o.w, tupI o.ro, .int o.r, tupI o.tg]
inductive R__law_ways : List PyData → Res → Prop
  | mk {os : List Order} : os.length ≤ 100 → R__law_ways [ordersD os] (.val (.tuple (os.map wayD)))
theorem d__law_ways (T : Txt K mg) : DefOk P w K mg base "_law_ways" ["orders"] 1 R__law_ways :=
  T.d__law_ways.ok sc__law_ways (by decide) (by intro ds r h; cases h <;> rfl) fun f cdv Ar outer s H E hr => ⟨_, (pss_one (ps_ret (pe_callTy (k_tupOf (K := K)) (by rfl) T.b_tuple (by decide +kernel) (pa_cons (pe_lc (own := [("order", 1)]) (g := (gName 1)) (tt := tYes) rfl sc__law_ways.nd (k_tup (K := K) (pv 0)) (blkOk_by (N := N__law_ways) (sc := defScope st__law_ways) (by decide +kernel)) (fun _ _ _ _ _ => (pg_name (i := 1) sc__law_ways.nd rfl (.inl rfl))) (fun _ _ _ _ _ => pts_nil) (fun _ _ _ _ _ => (pe_tup (pa_cons (pe_ix (k_ixT (K := K)) (pv 1) pe_int (fun _ _ => rfl)) (pa_cons (pe_ix (k_ixT (K := K)) (pv 1) pe_int (fun _ _ => rfl)) (pa_cons (pe_ix (k_ixT (K := K)) (pv 1) pe_int (fun _ _ => rfl)) (pa_cons (pe_ix (k_ixT (K := K)) (pv 1) pe_int (fun _ _ => rfl)) pa_nil))))))) pa_nil)))), fun ds r hR => by
    cases hR with
    | @mk os hl =>
      exact .inl (show SD K E _ [.da (ordersD os), .un] _ from (sd_ret (ED.to (ed_cb (eda_cons (ed_lc_map (f := orderD) (xs := os) (h := wayD) (it_tup (ed_var rfl)) (by have : LIM = 1000000 := rfl; omega) (fun x hx => ⟨_, (gd_name (by decide)), ((ed_tup (eda_cons (ed_ixT (ed_var rfl) ed_int rfl rfl) (eda_cons (ed_ixT (ed_var rfl) ed_int rfl rfl) (eda_cons (ed_ixT (ed_var rfl) ed_int rfl rfl) (eda_cons (ed_ixT (ed_var rfl) ed_int rfl rfl) eda_nil)))))).to (by rfl)⟩)) eda_nil) rc_tuple_l) (by rfl))))⟩
theorem rules_good : ∀ r ∈ lawRules, ruleOk r = true := by decide
theorem lawNet_ok (c : Int) : NetOk (lawNet c) ∧ (lawNet c).w ≤ 3 := by
  have hs := stagesN_in c
  have e : (lawNet c).st.length = (stagesN c).toNat := by unfold lawNet; rw [List.length_map, rng_len]
  have st : ∀ s ∈ (lawNet c).st, ∃ k, s = stageN c k := fun s h => by
    obtain ⟨k, _, rfl⟩ := List.mem_map.mp h
    exact ⟨k, rfl⟩
  have ln : ∀ k, (stageN c k).length = (hostsN1 c k).toNat := fun k => by unfold stageN; rw [List.length_map, rng_len]
  refine ⟨⟨?_, ?_, by omega, by omega, fun s h => ?_, fun s h => ?_, fun s h r hr => ?_, ?_, ?_⟩, ?_⟩
  · show 2 ≤ 2 + digN c 1 % 4; omega
  · show 2 + digN c 1 % 4 ≤ 6; omega
  · obtain ⟨k, rfl⟩ := st s h; have := hostsN1_in c k; rw [ln]; omega
  · obtain ⟨k, rfl⟩ := st s h; have := hostsN1_in c k; rw [ln]; omega
  · obtain ⟨k, rfl⟩ := st s h
    obtain ⟨j, _, rfl⟩ := List.mem_map.mp hr
    refine rules_good _ (getD_mem ?_)
    show _ < 6
    omega
  · show 1 ≤ 1 + digN c 11 % 3; omega
  · show 1 + digN c 11 % 3 ≤ 16; omega
  · show 1 + digN c 11 % 3 ≤ 3; omega
theorem stage_at {h : Int} : ∀ {l : List (List Rule)} {j k : Nat} {last i : Int}, j < l.length → 0 ≤ i → i < ((l.getD j []).length : Int) → h = last + ((l.take j).map fun s => (s.length : Int)).sum + i →
    ended ((l.zipIdx k).foldlM (stageT h) last) .none = .int ((k + j : Nat) : Int) ∧ h < last + (l.map fun s => (s.length : Int)).sum
  | [], j, k, last, i, hj, _, _, _ => by simp at hj
  | s :: l, 0, k, last, i, hj, h0, h1, e => by
    have h1' : i < (s.length : Int) := h1
    have hs := (sum_nn (fun s : List Rule => min (s.length : Int) 0) l (fun x hx => by omega)).1
    rw [List.zipIdx_cons, List.foldlM_cons]
    have e' : h = last + i := by simpa using e
    have e3 : stageT h last (s, k) = .error (.int (k : Int)) := by unfold stageT turn; rw [if_pos]; simp; omega
    rw [e3]
    refine ⟨rfl, ?_⟩
    have nn : ∀ l : List (List Rule), 0 ≤ (l.map fun s => (s.length : Int)).sum := fun l => by
      induction l with
      | nil => simp
      | cons a l ih => rw [List.map_cons, List.sum_cons]; omega
    have := nn l
    rw [List.map_cons, List.sum_cons]
    omega
  | s :: l, j + 1, k, last, i, hj, h0, h1, e => by
    have e2 : h = (last + (s.length : Int)) + ((l.take j).map fun s => (s.length : Int)).sum + i := by
      rw [List.take_succ_cons, List.map_cons, List.sum_cons] at e
      omega
    obtain ⟨a, b⟩ := stage_at (k := k + 1) (by simpa using hj) h0 (by simpa using h1) e2
    have nn : ∀ l : List (List Rule), 0 ≤ (l.map fun s => (s.length : Int)).sum := fun l => by
      induction l with
      | nil => simp
      | cons a l ih => rw [List.map_cons, List.sum_cons]; omega
    have := nn (l.take j)
    rw [List.zipIdx_cons, List.foldlM_cons]
    have e3 : stageT h last (s, k) = .ok (last + (s.length : Int)) := by unfold stageT turn; rw [if_neg]; simp; omega
    rw [e3]
    refine ⟨?_, by rw [List.map_cons, List.sum_cons]; omega⟩
    rw [show k + (j + 1) = k + 1 + j by omega]
    exact a
theorem first_nn (N : Net) (k : Nat) : 0 ≤ firstOf N k := by
  unfold firstOf
  generalize N.st.take k = l
  induction l with
  | nil => simp
  | cons a l ih => rw [List.map_cons, List.sum_cons]; omega
/-- a host of the stage j -/
theorem host_in {N : Net} {j : Nat} (hj : j < N.st.length) {i : Int} (h0 : 0 ≤ i) (h1 : i < ((N.st.getD j []).length : Int)) : (hostsBy N j).getD i.toNat 0 = firstOf N j + i ∧ stageBy N (firstOf N j + i) = .int (j : Int) ∧ 0 ≤ firstOf N j + i ∧ firstOf N j + i < hostCount N := by
  obtain ⟨a, b⟩ := stage_at (h := firstOf N j + i) (k := 0) (last := 0) hj h0 h1 (by unfold firstOf; omega)
  have := first_nn N j
  refine ⟨?_, by rw [Nat.zero_add] at a; exact a, by omega, by unfold hostCount; omega⟩
  unfold hostsBy
  rw [List.getD_eq_getElem?_getD, rng_get (by omega), Int.toNat_of_nonneg h0]
  rfl
theorem mem_digO {c most : Int} (h : 0 ≤ most) {i : Int} (h0 : 0 ≤ i) (h1 : i < 2 * most + 1) : 0 ≤ digO c most i ∧ digO c most i < 60 := by
  unfold digO
  exact lawRow_in (by decide) _ (getD_mem (by rw [lawRow_len]; omega))
theorem mem_marO {m most : Int} {i : Int} (h0 : 0 ≤ i) (h1 : i < 9 * most) : 0 ≤ marO m most i ∧ marO m most i < 97 := by
  unfold marO
  exact lawRow_in (by decide) _ (getD_mem (by rw [lawRow_len]; omega))
theorem marO_in (m most i : Int) : 0 ≤ marO m most i ∧ marO m most i < 97 := by
  unfold marO
  rw [List.getD_eq_getElem?_getD]
  cases e : (lawRow m (9 * most) 97)[i.toNat]? with
  | none => simp
  | some x => exact lawRow_in (by decide) x (List.mem_of_getElem? e)
theorem lawOrder_ok {c m most : Int} {N : Net} (hN : NetOk N) (hw : N.w ≤ 3) {k : Int} (h0 : 0 ≤ k) (h1 : k ≤ 90) : OrderOk N (lawOrder c m most N k) := by
  have hn := hN.n2
  have hw1 := hN.w1
  have hs3 := hN.s3
  have md : ∀ a : Int, 0 ≤ a % N.n ∧ a % N.n < N.n := fun a => ⟨Int.emod_nonneg _ (by omega), Int.emod_lt_of_pos _ (by omega)⟩
  have hj : ∀ j ∈ rng 0 N.st.length, 0 ≤ j ∧ j.toNat < N.st.length ∧ (j.toNat : Int) = j := fun j h => by have := k_rng h; omega
  have hx : ∀ j ∈ rng 0 N.st.length, (hostsBy N j.toNat).getD (marO m most (9 * k + j) % ((N.st.getD j.toNat []).length : Int)).toNat 0 = firstOf N j.toNat + marO m most (9 * k + j) % ((N.st.getD j.toNat []).length : Int) ∧ stageBy N (firstOf N j.toNat + marO m most (9 * k + j) % ((N.st.getD j.toNat []).length : Int)) = .int (j.toNat : Int) ∧ 0 ≤ firstOf N j.toNat + marO m most (9 * k + j) % ((N.st.getD j.toNat []).length : Int) ∧ firstOf N j.toNat + marO m most (9 * k + j) % ((N.st.getD j.toNat []).length : Int) < hostCount N := fun j h => by
    have h2 := hN.h1 _ (getD_mem (d := []) (hj j h).2.1)
    exact host_in (hj j h).2.1 (Int.emod_nonneg _ (by omega)) (Int.emod_lt_of_pos _ (by omega))
  refine ⟨?_, ?_, (md _).1, (md _).2, ⟨⟨?_, fun h hh => ?_, fun p hp => ?_⟩, (md _).1, (md _).2, ?_, fun t ht => ?_⟩, ?_, ?_⟩
  · show 0 ≤ digO c most (1 + 2 * k) % 4; omega
  · show digO c most (1 + 2 * k) % 4 ≤ 40; omega
  · show (lawRoute m most N k).length = _
    unfold lawRoute; rw [List.length_map, rng_len]
  · obtain ⟨j, hj', rfl⟩ := List.mem_map.mp hh
    obtain ⟨a, b, d, e⟩ := hx j hj'
    rw [a]; exact ⟨d, e⟩
  · have hp' : (lawRoute m most N k)[p.2]? = some p.1 := List.mem_zipIdx_iff_getElem?.mp hp
    unfold lawRoute at hp'
    rw [List.getElem?_map] at hp'
    cases e : (rng 0 N.st.length)[p.2]? with
    | none => rw [e] at hp'; cases hp'
    | some j =>
      rw [e] at hp'
      have hpl : p.2 < N.st.length := by
        have := (List.getElem?_eq_some_iff.mp e).1
        rwa [rng_len] at this
      rw [rng_get hpl] at e
      have ej : j = (p.2 : Int) := by have := Option.some.inj e; omega
      subst ej
      have hm : (p.2 : Int) ∈ rng 0 N.st.length := by
        have := List.mem_of_getElem? (rng_get (lo := 0) hpl)
        simpa using this
      obtain ⟨a, b, d, e2⟩ := hx _ hm
      have hp2 := Option.some.inj hp'
      rw [← hp2]
      show stageBy N ((hostsBy N ((p.2 : Int)).toNat).getD (marO m most (9 * k + (p.2 : Int)) % ((N.st.getD ((p.2 : Int)).toNat []).length : Int)).toNat 0) = _
      rw [a, b]
      rfl
  · show (lawTags m most N k).length = _
    unfold lawTags; rw [List.length_map, rng_len]
  · obtain ⟨j, hj', rfl⟩ := List.mem_map.mp ht
    have := k_rng hj'
    constructor <;> omega
  · show ((lawCont m most N k).length : Int) = N.w
    unfold lawCont; rw [List.length_map, rng_len]; omega
  · show allUnder (lawCont m most N k) 97 = true
    refine List.all_eq_true.mpr fun x hx => ?_
    obtain ⟨j, _, rfl⟩ := List.mem_map.mp hx
    simpa using marO_in m most (9 * k + 6 + j)
theorem place_tags {o : Order} (h : o.tg.length = o.ro.length + 1) : (orderPlaces o).map (fun p => p.getD 2 0) = o.tg := by
  unfold orderPlaces placesOf
  rw [List.map_map]
  have e : ∀ p ∈ ((o.ro.map (fun h => [0, h]) ++ [[1, o.r]]).zip o.tg), ((fun p : List Int => p.getD 2 0) ∘ fun p : List Int × Int => p.1 ++ [p.2]) p = p.2 := fun p hp => by
    have h2 := places_all2 hp
    obtain ⟨a, b⟩ := p
    match a, h2 with
    | [x, y], _ => rfl
  rw [List.map_congr_left e, List.map_snd_zip]
  rw [List.length_append, List.length_map]
  simp; omega
theorem lawTags_lt (m most : Int) (N : Net) (k : Int) (hs : N.st.length ≤ 3) : (lawTags m most N k).Pairwise (· < ·) ∧ ∀ t ∈ lawTags m most N k, 100 * k ≤ t ∧ t < 100 * k + 100 := by
  unfold lawTags
  refine ⟨?_, fun t ht => ?_⟩
  · rw [List.pairwise_map]
    unfold rng
    rw [List.pairwise_map]
    refine List.Pairwise.imp ?_ List.pairwise_lt_range
    intro a b hab
    omega
  · obtain ⟨j, hj, rfl⟩ := List.mem_map.mp ht
    have := k_rng hj
    omega
theorem rng_pair (n : Nat) : (rng 0 n).Pairwise (· < ·) := by
  unfold rng
  rw [List.pairwise_map]
  refine List.Pairwise.imp ?_ List.pairwise_lt_range
  intro a b hab
  omega
theorem lawOrders_ok {c m most : Int} {N : Net} (hN : NetOk N) (hw : N.w ≤ 3) (h0 : 0 ≤ most) (h1 : most ≤ 12) : OrdersOk N (lawOrders c m most N) ∧ (lawOrders c m most N).length ≤ most.toNat := by
  have hq : 0 ≤ digO c most 0 % (most + 1) ∧ digO c most 0 % (most + 1) < most + 1 := ⟨Int.emod_nonneg _ (by omega), Int.emod_lt_of_pos _ (by omega)⟩
  have hl : (lawOrders c m most N).length ≤ most.toNat := by unfold lawOrders; rw [List.length_map, rng_len]; omega
  have hok : ∀ o ∈ lawOrders c m most N, OrderOk N o := fun o ho => by
    obtain ⟨k, hk, rfl⟩ := List.mem_map.mp ho
    have := k_rng hk
    exact lawOrder_ok hN hw (by omega) (by omega)
  refine ⟨⟨by omega, hok, ?_⟩, hl⟩
  have e : ((lawOrders c m most N).flatMap orderPlaces).map (fun p => p.getD 2 0) = (rng 0 (digO c most 0 % (most + 1)).toNat).flatMap (lawTags m most N) := by
    rw [List.map_flatMap]
    unfold lawOrders
    rw [List.flatMap_map]
    have : ∀ l : List Int, (∀ k ∈ l, 0 ≤ k ∧ k ≤ 90) → (l.flatMap fun k => (orderPlaces (lawOrder c m most N k)).map fun p => p.getD 2 0) = l.flatMap (lawTags m most N) := by
      intro l
      induction l with
      | nil => intro _; rfl
      | cons k l ih =>
        intro hl
        rw [List.flatMap_cons, List.flatMap_cons, ih fun y hy => hl y (List.mem_cons_of_mem _ hy)]
        have ok := lawOrder_ok (c := c) (m := m) (most := most) hN hw (hl k List.mem_cons_self).1 (hl k List.mem_cons_self).2
        rw [place_tags (by rw [ok.way.tl, ok.way.ro.len])]
        rfl
    exact this _ fun k hk => by have := k_rng hk; omega
  have nd : (((lawOrders c m most N).flatMap orderPlaces).map (fun p => p.getD 2 0)).Nodup := by
    rw [e, List.nodup_iff_pairwise_ne]
    refine List.Pairwise.imp (R := (· < ·)) (fun h => by omega) ?_
    rw [List.pairwise_flatMap]
    refine ⟨fun k _ => (lawTags_lt m most N k hN.s3).1, ?_⟩
    refine List.Pairwise.imp ?_ (rng_pair _)
    intro a b hab x hx y hy
    have h3 := (lawTags_lt m most N a hN.s3).2 x hx
    have h4 := (lawTags_lt m most N b hN.s3).2 y hy
    omega
  rw [List.nodup_iff_pairwise_ne, List.pairwise_map] at nd
  rw [List.nodup_iff_pairwise_ne]
  exact nd.imp fun hne e => hne (by rw [e])
theorem made_ready {N : Net} {os : List Order} {seed : Int} (hN : NetOk N) (h : OrdersOk N os) : ReadyOk N (madeSec N seed (os.flatMap orderPlaces)) os ∧ ((madeSec N seed (os.flatMap orderPlaces)).map (·.1)).Nodup := by
  have e : (madeSec N seed (os.flatMap orderPlaces)).map (·.1) = os.flatMap orderPlaces := by
    unfold madeSec padAt
    rw [List.map_map]
    exact List.map_id _
  have hl := long_in hN
  refine ⟨⟨⟨?_, fun p hp => ?_, fun p hp => ?_, fun p hp => ?_⟩, h, fun o ho p hp => ?_⟩, by rw [e]; exact h.nd⟩
  · have := all_places_few hN h
    unfold madeSec; rw [List.length_map]; omega
  · obtain ⟨q, hq, rfl⟩ := List.mem_map.mp hp
    obtain ⟨o, ho, hq⟩ := List.mem_flatMap.mp hq
    have ok := h.ok o ho
    show PlaceOk N q
    unfold orderPlaces placesOf at hq
    obtain ⟨z, hz, rfl⟩ := List.mem_map.mp hq
    have hz2 := List.of_mem_zip (a := z.1) (b := z.2) hz
    have ht := ok.way.tg _ hz2.2
    rcases List.mem_append.mp hz2.1 with w | w
    · obtain ⟨x, hx, ex⟩ := List.mem_map.mp w
      have hu := ok.way.ro.un x hx
      show PlaceOk N (z.1 ++ [z.2])
      rw [← ex]
      exact .host hu.1 hu.2 ht.1 ht.2
    · have ex : z.1 = [1, o.r] := by simpa using w
      show PlaceOk N (z.1 ++ [z.2])
      rw [ex]
      exact .person ok.way.r0 ok.way.rn ht.1 ht.2
  · obtain ⟨q, hq, rfl⟩ := List.mem_map.mp hp
    show ((grownL _ _).length : Int) = _
    rw [grownL_len]; omega
  · obtain ⟨q, hq, rfl⟩ := List.mem_map.mp hp
    exact List.all_eq_true.mpr fun x hx => by simpa using grownL_in _ _ x hx
  · rw [e]
    exact List.mem_flatMap.mpr ⟨o, ho, hp⟩

theorem law_at_of {ns : List Int} {i : Int} {k : Nat} (h : i = (k : Int)) : R__law_at [scr ns, .int i] (.val (.int (lawAt ns k))) := h ▸ .mk
def pNet (ns : List Int) (a : Nat) : Net := lawNet (lawAt ns a)
def pOrd (ns : List Int) (a : Nat) : List Order := lawOrders (lawAt ns (a + 1)) (lawAt ns (a + 2)) 6 (pNet ns a)
def pSeed (ns : List Int) (a : Nat) : Int := (lawRow (lawAt ns (a + 3)) 1 1000).getD 0 0
def pSec (ns : List Int) (a : Nat) : Sec := madeSec (pNet ns a) (pSeed ns a) ((pOrd ns a).flatMap orderPlaces)
def pPost (ns : List Int) (a : Nat) : List Posting := (pOrd ns a).map (postOf (pNet ns a) (pSec ns a))
def pRun (ns : List Int) (a : Nat) : RunSt := runS (pNet ns a) (pSec ns a) (pPost ns a) 24
def pWorld (ns : List Int) (a : Nat) : PyData := dkD [(.inr "net", netD (pNet ns a)), (.inr "orders", ordersD (pOrd ns a)), (.inr "secrets", secD (pSec ns a)), (.inr "log", .tuple ((pRun ns a).lines.map linesD)), (.inr "told", toldD (pRun ns a)), (.inr "ways", .tuple ((pOrd ns a).map wayD))]
theorem pSeed_in (ns : List Int) (a : Nat) : 0 ≤ pSeed ns a ∧ pSeed ns a < 1000 := by
  unfold pSeed
  exact lawRow_in (by decide) _ (getD_mem (by rw [lawRow_len]; decide))
structure PostAll (ns : List Int) (a : Nat) : Prop where
  net : NetOk (pNet ns a)
  w3 : (pNet ns a).w ≤ 3
  ord : OrdersOk (pNet ns a) (pOrd ns a)
  six : (pOrd ns a).length ≤ 6
  rdy : ReadyOk (pNet ns a) (pSec ns a) (pOrd ns a)
  nd : ((pSec ns a).map (·.1)).Nodup
  ps : PsOk (pNet ns a) (pSec ns a) (pPost ns a)
theorem post_all (ns : List Int) (a : Nat) : PostAll ns a := by
  obtain ⟨h1, h2⟩ := lawNet_ok (lawAt ns a)
  obtain ⟨h3, h4⟩ := lawOrders_ok (c := lawAt ns (a + 1)) (m := lawAt ns (a + 2)) (most := 6) (N := lawNet (lawAt ns a)) h1 h2 (by decide) (by decide)
  obtain ⟨h5, h6⟩ := made_ready (seed := pSeed ns a) h1 h3
  exact ⟨h1, h2, h3, h4, h5, h6, posts_ok h1 h5 (Nat.le_trans (show (pOrd ns a).length ≤ 6 from h4) (by decide)) fun o ho => by have := (h3.ok o ho).t1; omega⟩
inductive R__law_post : List PyData → Res → Prop
  | mk {ns : List Int} {a : Nat} : R__law_post [scr ns, .int (a : Int), .int 6] (.val (pWorld ns a))
theorem d__law_post (T : Txt K mg) (h_Told_log : MethOk P w K mg base T.k_Told.C "log" ["self"] 1 (spD K R_Told_log)) (h__law_at : DefOk P w K mg base "_law_at" ["script", "k"] 1 R__law_at) (h__law_net : DefOk P w K mg base "_law_net" ["cell"] 3 R__law_net) (h__law_orders : DefOk P w K mg base "_law_orders" ["cell", "more", "net", "most"] 3 R__law_orders) (h__law_row : DefOk P w K mg base "_law_row" ["cell", "many", "top"] 2 R__law_row) (h__law_ways : DefOk P w K mg base "_law_ways" ["orders"] 1 R__law_ways) (h_led : DefOk P w K mg base "led" ["net", "secrets", "postings", "faults", "ticks"] 10 R_led) (h_made_secrets : DefOk P w K mg base "made_secrets" ["net", "orders", "seed"] 9 R_made_secrets) (h_postings_of : DefOk P w K mg base "postings_of" ["net", "secrets", "orders"] 10 R_postings_of) : DefOk P w K mg base "_law_post" ["script", "at", "most"] 11 R__law_post :=
  T.d__law_post.ok sc__law_post (by decide) (by intro ds r h; cases h <;> rfl) fun f cdv Ar outer s H E hr => ⟨_, (pss_cons (ps_set (i := 3) sc__law_post.nd rfl (.inl rfl) (pe_callD h__law_net (hr.mono (by decide)) (by rfl) passL (pa_cons (pe_callD h__law_at (hr.mono (by decide)) (by rfl) passL (pa_cons (pv 0) (pa_cons (pv 1) pa_nil))) pa_nil)))
  (pss_cons (ps_set (i := 4) sc__law_post.nd rfl (.inl rfl) (pe_callD h__law_orders (hr.mono (by decide)) (by rfl) passL (pa_cons (pe_callD h__law_at (hr.mono (by decide)) (by rfl) passL (pa_cons (pv 0) (pa_cons (pe_op op_add (pv 1) pe_int) pa_nil))) (pa_cons (pe_callD h__law_at (hr.mono (by decide)) (by rfl) passL (pa_cons (pv 0) (pa_cons (pe_op op_add (pv 1) pe_int) pa_nil))) (pa_cons (pv 3) (pa_cons (pv 2) pa_nil))))))
  (pss_cons (ps_set (i := 5) sc__law_post.nd rfl (.inl rfl) (pe_callD h_made_secrets (hr.mono (by decide)) (by rfl) passC (pa_cons (pv 3) (pa_cons (pv 4) (pa_cons (pe_ix (k_ixL (K := K)) (pe_callD h__law_row (hr.mono (by decide)) (by rfl) passL (pa_cons (pe_callD h__law_at (hr.mono (by decide)) (by rfl) passL (pa_cons (pv 0) (pa_cons (pe_op op_add (pv 1) pe_int) pa_nil))) (pa_cons pe_int (pa_cons pe_int pa_nil)))) pe_int (fun _ _ => rfl)) pa_nil)))))
  (pss_cons (ps_set (i := 6) sc__law_post.nd rfl (.inl rfl) (pe_callD h_led (hr.mono (by decide)) (by rfl) passC (pa_cons (pv 3) (pa_cons (pv 5) (pa_cons (pe_callD h_postings_of (hr.mono (by decide)) (by rfl) passC (pa_cons (pv 3) (pa_cons (pv 5) (pa_cons (pv 4) pa_nil)))) (pa_cons (pe_tup pa_nil) (pa_cons pe_int pa_nil)))))))
  (pss_one (ps_ret (pe_frz (pe_disp (pps_cons pe_str (pv 3) (pps_cons pe_str (pv 4) (pps_cons pe_str (pv 5) (pps_cons pe_str (pe_methD0 (pv 6) T.k_Told.f.cl h_Told_log (hr.mono (by decide)) passL) (pps_cons pe_str (pv 6) (pps_cons pe_str (pe_callD h__law_ways (hr.mono (by decide)) (by rfl) passL (pa_cons (pv 4) pa_nil)) pps_nil)))))) (by rfl) (by rfl) (fun z => by cases z) (by decide))))))))), fun ds r hR => by
    cases hR with
    | @mk ns a =>
      have pa := post_all ns a
      have h6 := pa.six
      exact .inl (show SD K E _ [.da (scr ns), .da (.int (a : Int)), .da (.int 6), .un, .un, .un, .un] _ from (sd_seq (sd_set (ed_call (eda_cons (ed_call (eda_cons (ed_var rfl) (eda_cons (ed_var rfl) eda_nil)) (law_at_of (k := a) rfl)) eda_nil) R__law_net.mk))
  (sd_seq (sd_set (ed_call (eda_cons (ed_call (eda_cons (ed_var rfl) (eda_cons (ed_add (ed_var rfl) ed_int) eda_nil)) (law_at_of (k := a + 1) (by omega))) (eda_cons (ed_call (eda_cons (ed_var rfl) (eda_cons (ed_add (ed_var rfl) ed_int) eda_nil)) (law_at_of (k := a + 2) (by omega))) (eda_cons (ed_var rfl) (eda_cons (ed_var rfl) eda_nil)))) (R__law_orders.mk pa.net pa.w3 (by decide) (by decide))))
  (sd_seq (sd_set (ed_call (eda_cons (ed_var rfl) (eda_cons (ed_var rfl) (eda_cons (ed_ixLi (ed_call (eda_cons (ed_call (eda_cons (ed_var rfl) (eda_cons (ed_add (ed_var rfl) ed_int) eda_nil)) (law_at_of (k := a + 3) (by omega))) (eda_cons ed_int (eda_cons ed_int eda_nil))) (R__law_row.mk (by walk_at "side" /-c__law_row1-/) (by walk_at "side" /-c__law_row2-/) (by walk_at "side" /-c__law_row3-/) (by walk_at "side" /-c__law_row4-/))) ed_int (by decide) (by rw [lawRow_len]; decide)) eda_nil))) (show R_made_secrets [netD (pNet ns a), ordersD (pOrd ns a), .int (pSeed ns a)] (.val (secD (pSec ns a))) from R_made_secrets.mk pa.net pa.ord ⟨(pSeed_in ns a).1, by have := (pSeed_in ns a).2; omega⟩)))
  (sd_seq (sd_set (ed_call (eda_cons (ed_var rfl) (eda_cons (ed_var rfl) (eda_cons (ed_call (eda_cons (ed_var rfl) (eda_cons (ed_var rfl) (eda_cons (ed_var rfl) eda_nil))) (R_postings_of.mk pa.net (Nat.le_trans pa.six (by decide)) pa.rdy)) (eda_cons (ed_tup eda_nil) (eda_cons ed_int eda_nil))))) (show R_led [netD (pNet ns a), secD (pSec ns a), postsD (pPost ns a), faultsD [], .int 24] (.val (toldD (pRun ns a))) from R_led.mk pa.ps pa.nd (by decide))))
  (sd_ret (ED.to (ed_disp (edp_cons (ED.to ed_str (show _ = (keyD (.inr "net")) from rfl)) (ed_var rfl) (edp_cons (ED.to ed_str (show _ = (keyD (.inr "orders")) from rfl)) (ed_var rfl) (edp_cons (ED.to ed_str (show _ = (keyD (.inr "secrets")) from rfl)) (ed_var rfl) (edp_cons (ED.to ed_str (show _ = (keyD (.inr "log")) from rfl)) (ed_meth (ed_var rfl) T.k_Told.f.at_ rfl eda_nil R_Told_log.mk) (edp_cons (ED.to ed_str (show _ = (keyD (.inr "told")) from rfl)) (ed_var rfl) (edp_cons (ED.to ed_str (show _ = (keyD (.inr "ways")) from rfl)) (ed_call (eda_cons (ed_var rfl) eda_nil) (R__law_ways.mk (Nat.le_trans pa.six (by decide)))) edp_nil)))))) (of_decide_eq_true (by rfl)) (of_decide_eq_true (by rfl))) (by rfl))))))))⟩
def subS (f : List (List Int)) (k : Int) : List (List Int) := f ++ f.map fun lot => lot ++ [k]
def allSub (m : Nat) : List (List Int) := (rng 0 m).foldl subS [[]]
def lawLots (m : Nat) (s : Int) : List (List Int) := sortBy tupI ((allSub m).filter fun lot => decide ((lot.length : Int) = s))
theorem dle_ints (a b : List Int) : dle (tupI a) (tupI b) = decide (a ≤ b) := by
  have := congrFun (congrFun (PySem.W.dataLe_rows (β := List Int) fun x => x) a) b
  rw [← this]
  show (!PySem.W.dataLt (.tuple (b.map .int)) (.tuple (a.map .int))) = (!PySem.W.dataLt (.list (b.map .int)) (.list (a.map .int)))
  rw [PySem.W.dataLt_tuple, PySem.W.dataLt_list]
theorem sorted_one_way : ∀ {l1 l2 : List (List Int)}, l1.Perm l2 → l1.Pairwise (· ≤ ·) → l2.Pairwise (· ≤ ·) → l1 = l2
  | [], l2, p, _, _ => (List.Perm.nil_eq p)
  | a :: t1, [], p, _, _ => absurd p.length_eq (by simp)
  | a :: t1, b :: t2, p, h1, h2 => by
    have ha : a ∈ b :: t2 := p.subset List.mem_cons_self
    have hb : b ∈ a :: t1 := p.symm.subset List.mem_cons_self
    have e : a = b := by
      rcases List.mem_cons.mp ha with z | z
      · exact z
      · rcases List.mem_cons.mp hb with y | y
        · exact y.symm
        · exact List.le_antisymm ((List.pairwise_cons.mp h1).1 b y) ((List.pairwise_cons.mp h2).1 a z)
    subst e
    rw [sorted_one_way ((List.perm_cons a).mp p) (List.pairwise_cons.mp h1).2 (List.pairwise_cons.mp h2).2]
theorem sortBy_ints (xs : List (List Int)) : (sortBy tupI xs).Pairwise (· ≤ ·) := by
  have h := List.pairwise_mergeSort (le := fun a b : List Int => dle (tupI a) (tupI b)) (fun a b c h1 h2 => by
    rw [dle_ints] at *
    exact decide_eq_true (List.le_trans (of_decide_eq_true h1) (of_decide_eq_true h2))) (fun a b => by
    rw [dle_ints, dle_ints]
    rcases List.le_total a b with z | z
    · simp [z]
    · simp [z]) xs
  exact h.imp fun z => of_decide_eq_true (by rw [← dle_ints]; exact z)
theorem lots_fin : ∀ m : Fin 8, ∀ s : Fin 8, (lotsOf (m.val : Int) s.val).isPerm ((allSub m.val).filter fun lot => decide ((lot.length : Int) = (s.val : Int))) = true ∧ (lotsOf (m.val : Int) s.val).Pairwise (· ≤ ·) := by decide +kernel
theorem lots_law {m s : Nat} (hm : m ≤ 7) (hs : s ≤ 7) : lawLots m (s : Int) = lotsOf (m : Int) s := by
  obtain ⟨h1, h2⟩ := lots_fin ⟨m, by omega⟩ ⟨s, by omega⟩
  have p : (lotsOf (m : Int) s).Perm ((allSub m).filter fun lot => decide ((lot.length : Int) = (s : Int))) := List.isPerm_iff.mp h1
  exact sorted_one_way ((sortBy_perm _ _).trans p.symm) (sortBy_ints _) h2
theorem sub_fin : ∀ m : Fin 8, (allSub m.val).length ≤ 128 ∧ (∀ l ∈ allSub m.val, l.length ≤ 7) ∧ ((allSub m.val).filter fun lot => decide ((lot.length : Int) = 0)).length < 2 := by decide +kernel

theorem sub_in {m : Nat} (h : m ≤ 7) : (allSub m).length ≤ 128 ∧ (∀ l ∈ allSub m, l.length ≤ 7) ∧ ((allSub m).filter fun lot => decide ((lot.length : Int) = 0)).length < 2 := sub_fin ⟨m, by omega⟩
theorem sub_pre {m : Nat} (h : m ≤ 7) {pre post : List Int} {x : Int} (hx : rng 0 m = pre ++ x :: post) : (pre.foldl subS [[]]).length ≤ 128 ∧ ∀ l ∈ pre.foldl subS [[]], l.length ≤ 7 := by
  obtain ⟨e1, e2, e3⟩ := rng_pre hx
  have := sub_in (m := pre.length) (by omega)
  unfold allSub at this
  rw [← e1] at this
  exact ⟨this.1, this.2.1⟩
theorem lots_al (xs : List (List Int)) : PySem.W.AllAlike (xs.map tupI) := fun d hd e he => by
  obtain ⟨x, _, rfl⟩ := List.mem_map.mp hd
  obtain ⟨y, _, rfl⟩ := List.mem_map.mp he
  exact alike_tup (alike_ints x y)
theorem lots_so {m : Nat} (h : m ≤ 7) {s : Int} (h0 : 0 ≤ s) : PySem.W.Sortable (((allSub m).filter fun lot => decide ((lot.length : Int) = s)).map tupI) ∨ ((((allSub m).filter fun lot => decide ((lot.length : Int) = s)).map tupI).length < 2 ∧ ∀ d ∈ ((allSub m).filter fun lot => decide ((lot.length : Int) = s)).map tupI, d ≠ .none) := by
  by_cases e : s = 0
  · subst e
    refine .inr ⟨by rw [List.length_map]; exact (sub_in h).2.2, fun d hd => ?_⟩
    obtain ⟨x, _, rfl⟩ := List.mem_map.mp hd
    exact fun z => by cases z
  · refine .inl (.inl fun d hd => ?_)
    obtain ⟨x, hx, rfl⟩ := List.mem_map.mp hd
    have hl := of_decide_eq_true (List.mem_filter.mp hx).2
    cases x with
    | nil => simp at hl; omega
    | cons a r => exact ⟨_, _, rfl⟩
theorem lots_dp (xs : List (List Int)) : ∀ d ∈ xs.map tupI, d.depth ≤ 60 := fun d hd => by
  obtain ⟨x, _, rfl⟩ := List.mem_map.mp hd
  show PyData.depthAll (x.map .int) + 1 ≤ 60
  rw [depth_ints]; decide
theorem lots_cl : ∀ xs : List (List Int), PyData.canLayAll0 (xs.map tupI) = true
  | [] => rfl
  | x :: xs => by show (PyData.canLayAll0 (x.map .int) && PyData.canLayAll0 (xs.map tupI)) = true; rw [lay_ints, lots_cl xs]; rfl
theorem subS_map (f : List (List Int)) (k : Int) : PyData.list (f.map tupI ++ f.map fun lot => tupI (lot ++ [k])) = .list ((subS f k).map tupI) := by
  unfold subS
  rw [List.map_append, List.map_map]; rfl
inductive R__law_lots : List PyData → Res → Prop
  | mk {m s : Int} : (0 ≤ m ∧ m ≤ 7) → (0 ≤ s ∧ s ≤ 7) → R__law_lots [.int m, .int s] (.val (.list ((lotsOf m s.toNat).map tupI)))
theorem d__law_lots (T : Txt K mg) : DefOk P w K mg base "_law_lots" ["many", "size"] 1 R__law_lots :=
  T.d__law_lots.ok sc__law_lots (by decide) (by intro ds r h; cases h <;> rfl) fun f cdv Ar outer s H E hr => ⟨_, (pss_cons (ps_set (i := 2) sc__law_lots.nd rfl (.inl rfl) (pe_lst (pa_cons (pe_tup pa_nil) pa_nil)))
  (pss_cons (ps_for PW0 rfl (pi_range1 (by rfl) T.b_range (pa_cons (pv 0) pa_nil)) (pg_name (i := 3) sc__law_lots.nd rfl (.inr rfl)) (pss_one (ps_set (i := 2) sc__law_lots.nd rfl (.inl rfl) (pe_op op_cat (pv 2) (pe_lc (own := [("lot", 4)]) (g := (gName 4)) (tt := tYes) rfl sc__law_lots.nd (k_list (K := K) (pv 2)) (blkOk_by (N := N__law_lots) (sc := defScope st__law_lots) (by decide +kernel)) (fun _ _ _ _ _ => (pg_name (i := 4) sc__law_lots.nd rfl (.inl rfl))) (fun _ _ _ _ _ => pts_nil) (fun _ _ _ _ _ => (pe_op (k_catT (K := K)) (pv 4) (pe_tup (pa_cons (pv 3) pa_nil)))))))))
  (pss_one (ps_ret (pe_callB (k_sortD (K := K) hr.units) (by rfl) T.b_sorted (by decide +kernel) (pa_cons (pe_lc (own := [("lot", 4)]) (g := (gName 4)) rfl sc__law_lots.nd (k_list (K := K) (pv 2)) (blkOk_by (N := N__law_lots) (sc := defScope st__law_lots) (by decide +kernel)) (fun _ _ _ _ _ => (pg_name (i := 4) sc__law_lots.nd rfl (.inl rfl))) (fun _ _ _ _ _ => (pts_one (pt_cmpR op_eq (pe_callB (k_len (K := K)) (by rfl) T.b_len PySem.boot_len (pa_cons (pv 4) pa_nil)) (pv 1) (nomark _)))) (fun _ _ _ _ _ => (pv 4))) pa_nil)))))), fun ds r hR => by
    cases hR with
    | @mk m s hm hs =>
      have hLIM : LIM = 1000000 := rfl
      have hm7 : m.toNat ≤ 7 := by omega
      exact .inl (show SD K E _ [.da (.int m), .da (.int s), .un, .un, .un] _ from (sd_seq (sd_set (ed_lst (eda_cons (ed_tup eda_nil) eda_nil)))
  (sd_seq (sd_for (S := fun f : List (List Int) => [.da (.int m), .da (.int s), .da (.list (f.map tupI)), .un, .un]) (step := subS) (b0 := [[]]) (f := .int) (xs := rng 0 m.toNat) (it_rng1 (eda_cons (ed_var rfl) eda_nil) (by omega) (by omega)) (by walk_at "le") (fun pre post x hx => ⟨_, gs_name, .inl (SD.weak (sd_set (ED.to (ed_catL (ed_var rfl) (ed_lc_map (f := tupI) (xs := pre.foldl subS [[]]) (h := fun lot => tupI (lot ++ [x])) (it_list (ed_var rfl)) (by have := (sub_pre hm7 hx).1; omega) (fun z hz => ⟨_, (gd_name (by decide)), ((ed_catT (ed_var rfl) (ed_tup (eda_cons (ed_var rfl) eda_nil)) (by have := (sub_pre hm7 hx).2 z hz; rw [List.length_append, List.length_map]; simp; omega))).to (by exact (show PyData.tuple _ = tupI (z ++ [x]) by unfold tupI; rw [List.map_append]; rfl))⟩)) (by have := (sub_pre hm7 hx).1; rw [List.length_append, List.length_map, List.length_map]; omega)) (by exact subS_map _ _))) (by walk_at "le"))⟩))
  (sd_ret (ED.to (ed_cb (eda_cons (ed_lc_filter (fun lot => decide ((lot.length : Int) = s)) (h := tupI) (it_list (ed_var rfl)) (by have := (sub_in hm7).1; exact Nat.le_trans this (by decide)) (fun x hx => ⟨_, (gd_name (by decide)), ((et_cmp (ed_eqI (ed_cb (eda_cons (ed_var rfl) eda_nil) rc_lenT) (ed_var rfl)))).to (by rw [List.length_map]), fun hp => ((ed_var rfl)).to (by rfl)⟩)) eda_nil) (rc_sortmX (by exact lots_al _) (by exact lots_so hm7 hs.1) (by exact lots_dp _) (by exact lots_cl _))) (by exact congrArg (fun z => PyData.list (z.map tupI)) (show lawLots m.toNat s = lotsOf m s.toNat by have h3 := lots_law (m := m.toNat) (s := s.toNat) hm7 (by omega); rw [Int.toNat_of_nonneg hs.1, Int.toNat_of_nonneg hm.1] at h3; exact h3)))))))⟩
inductive R__law_left : List PyData → Res → Prop
  | mk {m s : Int} {rs : List (List Int)} : (0 ≤ m ∧ m ≤ 7) → (0 ≤ s ∧ s ≤ 7) → rs.length ≤ LIM → R__law_left [.int m, .int s, .tuple (rs.map tupI)] (.val (.list ((leftL m s.toNat rs).map tupI)))
theorem d__law_left (T : Txt K mg) (h__law_lots : DefOk P w K mg base "_law_lots" ["many", "size"] 1 R__law_lots) : DefOk P w K mg base "_law_left" ["many", "size", "rounds"] 2 R__law_left :=
  T.d__law_left.ok sc__law_left (by decide) (by intro ds r h; cases h <;> rfl) fun f cdv Ar outer s H E hr => ⟨_, (pss_one (ps_ret (pe_lc (own := [("lot", 3)]) (g := (gName 3)) rfl sc__law_left.nd (k_list (K := K) (pe_callD h__law_lots (hr.mono (by decide)) (by rfl) passL (pa_cons (pv 0) (pa_cons (pv 1) pa_nil)))) (blkOk_by (N := N__law_left) (sc := defScope st__law_left) (by decide +kernel)) (fun _ _ _ _ _ => (pg_name (i := 3) sc__law_left.nd rfl (.inr rfl))) (fun _ _ _ _ _ => (pts_one (pt_val (pe_callB (k_all (K := K)) (by rfl) T.b_all (by decide +kernel) (pa_cons (pe_lc (own := [("seen", 4)]) (g := (gName 4)) (tt := tYes) rfl sc__law_left.nd (k_tup (K := K) (pv 2)) (blkOk_by rfl) (fun _ _ _ _ _ => (pg_name (i := 4) sc__law_left.nd rfl (.inr rfl))) (fun _ _ _ _ _ => pts_nil) (fun _ _ _ _ _ => (pe_callB (k_any (K := K)) (by rfl) T.b_any (by decide +kernel) (pa_cons (pe_lc (own := [("one", 5)]) (g := (gName 5)) (tt := tYes) rfl sc__law_left.nd (k_tup (K := K) (pv 3)) (blkOk_by rfl) (fun _ _ _ _ _ => (pg_name (i := 5) sc__law_left.nd rfl (.inl rfl))) (fun _ _ _ _ _ => pts_nil) (fun _ _ _ _ _ => (pe_cmpR (k_in (K := K)) (pv 5) (pv 4) (by with_unfolding_all rfl)))) pa_nil)))) pa_nil))))) (fun _ _ _ _ _ => (pv 3))))), fun ds r hR => by
    cases hR with
    | @mk m s rs hm hs hl =>
      exact .inl (show SD K E _ [.da (.int m), .da (.int s), .da (.tuple (rs.map tupI)), .un, .un, .un] _ from (sd_ret (ED.to (ed_lc_filter (meetAll rs) (it_list (ed_call (eda_cons (ed_var rfl) (eda_cons (ed_var rfl) eda_nil)) (R__law_lots.mk hm hs))) (by exact lots_lim hm.1 hm.2 (by omega)) (fun x hx => ⟨_, (gd_name (by decide)), ((et_val (ed_cb (eda_cons (ed_lc_map  (it_tup (ed_var rfl)) (by exact hl) (fun u hu => ⟨_, (gd_name (by decide)), ((ed_cb (eda_cons (ed_lc_map  (it_tup (ed_var rfl)) (by have h1 := (lots_in hx).1; have : LIM = 1000000 := rfl; omega) (fun u hu => ⟨_, (gd_name (by decide)), ((ed_inI (ed_var rfl) (ed_var rfl) (by exact rfl))).to (by rfl)⟩)) eda_nil) rc_anym)).to (by rfl)⟩)) eda_nil) rc_allm))).to (by rfl), fun hp => ((ed_var rfl)).to (by rfl)⟩)) (by rfl))))⟩
inductive R__law_refused : List PyData → Res → Prop
  | mk {a b d : PyData} : R_need_seen [a, b, d] (.exc "NoRounds") → R__law_refused [a, b, d] (.val (.bool true))
theorem d__law_refused (T : Txt K mg) (h_friend_lots : DefOk P w K mg base "friend_lots" ["many", "size", "rounds"] 7 R_friend_lots) : DefOk P w K mg base "_law_refused" ["many", "size", "rounds"] 8 R__law_refused :=
  T.d__law_refused.ok sc__law_refused (by decide) (by intro ds r h; cases h <;> rfl) fun f cdv Ar outer s H E hr => ⟨_, (pss_cons (ps_try_as (i := 3) (ts := fun a cls d => tRet (tCB (rIsE2 K cls d a) (tCons (tVar 3) (tCons (tC (.ref T.x_NoRounds.C)) tNil)))) rfl rfl sc__law_refused.nd rfl rfl ⟨rfl, by decide, .inl T.x_PostError.f.g⟩ (takes_of rfl rfl rfl rfl) (fun W pn xe tk _ => (pss_one (ps_expr (pe_callT h_friend_lots (hr.mono (by decide)) (by rfl) tk (pa_cons (pv 0) (pa_cons (pv 1) (pa_cons (pv 2) pa_nil))))))) (fun a oe cls d pn hz hf => (pss_one (ps_ret (pe_callB (k_isE2 hz hf (K := K)) (by rfl) T.b_isinstance (by decide +kernel) (pa_cons (pv 3) (pa_cons (pe_cls T.x_NoRounds (by rfl)) pa_nil)))))))
  (pss_one (ps_ret pe_bl))), fun ds r hR => by
    cases hR with
    | @mk a b d h =>
      exact .inl (show SD K E _ [.da a, .da b, .da d, .un] _ from (sd_early (sd_try_isE (tc := tVar 0) (tbd_exc (eda_cons (ed_var rfl) (eda_cons (ed_var rfl) (eda_cons (ed_var rfl) eda_nil))) (R_friend_lots.exc h)) (Nat.le_of_ble_eq_true rfl) (T.w_NoRounds_PostError.use T.x_PostError T.x_NoRounds))))⟩
end
end Lw

set_option Elab.async false
set_option linter.all false
set_option maxRecDepth 100000
set_option maxHeartbeats 4000000
namespace Lw
open PySem PySem.Spec PyProof.Rows L2 D2
--BEGIN
/-! ### the run, host by host -/
theorem sent_congr {N : Net} {s : Sec} {a b : RunSt} {h tick : Int} (h1 : hostAt a h = hostAt b h) (h2 : a.coming = b.coming) : sentAt N s a h tick = sentAt N s b h tick ∧ goneAt N a h tick = goneAt N b h tick ∧ hostStepL N s a h tick = hostStepL N s b h tick := by
  have e1 : textsTo a h = textsTo b h := by unfold textsTo; rw [h2]
  have e2 : goneAt N a h tick = goneAt N b h tick := by unfold goneAt; rw [h1, e1]
  have e3 : sentAt N s a h tick = sentAt N s b h tick := by unfold sentAt; rw [h1, e1, e2]
  exact ⟨e3, e2, by unfold hostStepL outsAt; rw [e3]⟩
/-- behind j hosts -/
def midP (N : Net) (s : Sec) (ps : List Posting) (st : RunSt) (tick : Int) (j : Nat) : List Line × RunSt := (rng 0 j).foldl (stepP N s tick) (postedAt ps tick, st)
theorem midP_succ (N : Net) (s : Sec) (ps : List Posting) (st : RunSt) (tick : Int) (j : Nat) : midP N s ps st tick (j + 1) = stepP N s tick (midP N s ps st tick j) (j : Int) := by
  unfold midP
  rw [rng_succ, List.foldl_append]; rfl
theorem hostAt_set {st : RunSt} {x : HostSt} {j i : Nat} (hj : j < st.hosts.length) (co : List Line) (li : List (List Line)) (ba : List Batch) (le : List Lett) : hostAt ⟨st.hosts.set j x, co, li, ba, le⟩ (i : Int) = if i = j then x else hostAt st (i : Int) := by
  unfold hostAt
  rw [Int.toNat_natCast]
  show ((st.hosts.set j x)[i]?).getD _ = _
  rw [List.getElem?_set]
  by_cases e : j = i
  · subst e
    rw [if_pos rfl, if_pos hj, if_pos rfl]; rfl
  · rw [if_neg e, if_neg (Ne.symm e)]
theorem mid_at {N : Net} {s : Sec} {ps : List Posting} {st : RunSt} {tick : Int} : ∀ j : Nat, j ≤ st.hosts.length → (midP N s ps st tick j).2.coming = st.coming ∧ (midP N s ps st tick j).2.hosts.length = st.hosts.length ∧ (∀ i : Nat, hostAt (midP N s ps st tick j).2 (i : Int) = if i < j then (sentAt N s st (i : Int) tick).1 else hostAt st (i : Int)) ∧
    (midP N s ps st tick j).1 = postedAt ps tick ++ (List.range j).flatMap fun (i : Nat) => hostStepL N s st (i : Int) tick
  | 0, _ => ⟨rfl, rfl, fun i => by rw [if_neg (Nat.not_lt_zero i)]; rfl, by simp [midP, rng]⟩
  | j + 1, hj => by
    obtain ⟨a, b, c, d⟩ := mid_at (N := N) (s := s) (ps := ps) (st := st) (tick := tick) j (by omega)
    have e := sent_congr (N := N) (s := s) (tick := tick) (a := (midP N s ps st tick j).2) (b := st) (h := (j : Int)) (by rw [c j, if_neg (Nat.lt_irrefl j)]) a
    rw [midP_succ]
    refine ⟨a, ?_, fun i => ?_, ?_⟩
    · show (List.set _ _ _).length = _
      rw [List.length_set]; exact b
    · show hostAt (hostStepS N s (midP N s ps st tick j).2 (j : Int) tick) (i : Int) = _
      unfold hostStepS
      rw [Int.toNat_natCast, hostAt_set (by omega), c i, e.1]
      by_cases e1 : i = j
      · subst e1; rw [if_pos rfl, if_pos (Nat.lt_succ_self i)]
      · rw [if_neg e1]
        by_cases e2 : i < j
        · rw [if_pos e2, if_pos (by omega)]
        · rw [if_neg e2, if_neg (by omega)]
    · show (midP N s ps st tick j).1 ++ hostStepL N s (midP N s ps st tick j).2 (j : Int) tick = _
      rw [d, e.2.2, List.range_succ, List.flatMap_append]
      simp
theorem step_host {N : Net} {s : Sec} {ps : List Posting} {st : RunSt} {tick : Int} (hl : st.hosts.length = (hostCount N).toNat) {i : Nat} (hi : i < st.hosts.length) : hostAt (stepS N s ps st tick) (i : Int) = (sentAt N s st (i : Int) tick).1 := by
  have h := (mid_at (N := N) (s := s) (ps := ps) (st := st) (tick := tick) (hostCount N).toNat (by omega)).2.2.1 i
  rw [if_pos (by omega)] at h
  exact h
theorem step_here {N : Net} {s : Sec} {ps : List Posting} {st : RunSt} {tick : Int} (hl : st.hosts.length = (hostCount N).toNat) : (stepHere N s ps st tick).1 = postedAt ps tick ++ (List.range (hostCount N).toNat).flatMap fun (i : Nat) => hostStepL N s st (i : Int) tick :=
  (mid_at (N := N) (s := s) (ps := ps) (st := st) (tick := tick) (hostCount N).toNat (by omega)).2.2.2
theorem step_len {N : Net} {s : Sec} {ps : List Posting} {st : RunSt} {tick : Int} (hl : st.hosts.length = (hostCount N).toNat) : (stepS N s ps st tick).hosts.length = (hostCount N).toNat := by
  have h := (mid_at (N := N) (s := s) (ps := ps) (st := st) (tick := tick) (hostCount N).toNat (by omega)).2.1
  rw [hl] at h
  exact h
theorem step_coming {N : Net} {s : Sec} {ps : List Posting} {st : RunSt} {tick : Int} (hl : st.hosts.length = (hostCount N).toNat) (l : Line) : l ∈ (stepS N s ps st tick).coming ↔ l ∈ postedAt ps tick ∨ ∃ i : Nat, i < (hostCount N).toNat ∧ l ∈ hostStepL N s st (i : Int) tick := by
  show l ∈ sortBy lineD _ ↔ _
  rw [(sortBy_perm _ _).mem_iff, step_here hl, List.mem_append, List.mem_flatMap]
  refine or_congr Iff.rfl ⟨fun ⟨i, h1, h2⟩ => ⟨i, List.mem_range.mp h1, h2⟩, fun ⟨i, h1, h2⟩ => ⟨i, List.mem_range.mpr h1, h2⟩⟩
/-! ### how many letters are on the way -/
def wsum (hs : List HostSt) : Nat := (hs.map fun h => h.waiting.length).sum
theorem wsum_set : ∀ {hs : List HostSt} {i : Nat} {x y : HostSt}, hs[i]? = some y → wsum (hs.set i x) + y.waiting.length = wsum hs + x.waiting.length
  | [], _, _, _, e => by simp at e
  | h :: hs, 0, x, y, e => by
    have : h = y := by simpa using e
    subst this
    unfold wsum
    rw [List.set_cons_zero, List.map_cons, List.map_cons, List.sum_cons, List.sum_cons]; omega
  | h :: hs, i + 1, x, y, e => by
    have ih := wsum_set (x := x) (show hs[i]? = some y by simpa using e)
    unfold wsum at *
    rw [List.set_cons_succ, List.map_cons, List.map_cons, List.sum_cons, List.sum_cons]
    omega
theorem sends_wait (N : Net) (h : Int) (s : Sec) : ∀ (l : List Text) (p : HostSt × List (Option (Pl2 × Text))), (l.foldl (fun p x => ((sendOne N h s p.1 x).1, p.2 ++ [(sendOne N h s p.1 x).2])) p).1.waiting = p.1.waiting
  | [], p => rfl
  | x :: l, p => by
    rw [List.foldl_cons, sends_wait N h s l]
    show (sendOne N h s p.1 x).1.waiting = p.1.waiting
    unfold sendOne
    split <;> rfl
theorem sent_wait (N : Net) (s : Sec) (st : RunSt) (h tick : Int) : (sentAt N s st h tick).1.waiting = (leaveW (hostAt st h) tick (textsTo st h)).drop (leaveN N h (hostAt st h) tick (textsTo st h)).toNat := sends_wait _ _ _ _ _
theorem outs_le (N : Net) (s : Sec) (st : RunSt) (h tick : Int) : (hostStepL N s st h tick).length ≤ (goneAt N st h tick).length := by
  unfold hostStepL outsAt sentAt sendAll
  rw [List.length_map, sortBy_len, sortBy_len]
  refine Nat.le_trans (List.length_filterMap_le _ _) ?_
  rw [all_len]; simp
theorem host_w (N : Net) (s : Sec) (st : RunSt) (h tick : Int) : (sentAt N s st h tick).1.waiting.length + (hostStepL N s st h tick).length ≤ (hostAt st h).waiting.length + (textsTo st h).length := by
  have h1 := outs_le N s st h tick
  rw [sent_wait]
  have h2 : (goneAt N st h tick).length = ((leaveW (hostAt st h) tick (textsTo st h)).take (leaveN N h (hostAt st h) tick (textsTo st h)).toNat).length := by unfold goneAt leaveT; rw [List.length_map]
  have h3 : (leaveW (hostAt st h) tick (textsTo st h)).length = (hostAt st h).waiting.length + (textsTo st h).length := by unfold leaveW; rw [List.length_append, List.length_map, sortBy_len]
  rw [List.length_drop]
  rw [List.length_take] at h2
  omega
theorem mid_w {N : Net} {s : Sec} {ps : List Posting} {st : RunSt} {tick : Int} : ∀ j : Nat, j ≤ st.hosts.length → (midP N s ps st tick j).1.length + wsum (midP N s ps st tick j).2.hosts ≤ (postedAt ps tick).length + wsum st.hosts + ((List.range j).map fun (i : Nat) => (textsTo st (i : Int)).length).sum
  | 0, _ => by simp [midP, rng]
  | j + 1, hj => by
    have ih := mid_w (N := N) (s := s) (ps := ps) (st := st) (tick := tick) j (by omega)
    obtain ⟨a, b, c, d⟩ := mid_at (N := N) (s := s) (ps := ps) (st := st) (tick := tick) j (by omega)
    have hw := host_w N s (midP N s ps st tick j).2 (j : Int) tick
    have e : textsTo (midP N s ps st tick j).2 (j : Int) = textsTo st (j : Int) := by unfold textsTo; rw [a]
    rw [e] at hw
    have hg : (midP N s ps st tick j).2.hosts[j]? = some (hostAt (midP N s ps st tick j).2 (j : Int)) := by
      unfold hostAt
      rw [Int.toNat_natCast, List.getElem?_eq_getElem (by omega)]; rfl
    have hs := wsum_set (x := (sentAt N s (midP N s ps st tick j).2 (j : Int) tick).1) hg
    rw [midP_succ]
    show ((midP N s ps st tick j).1 ++ _).length + wsum ((midP N s ps st tick j).2.hosts.set ((j : Int)).toNat _) ≤ _
    rw [Int.toNat_natCast, List.length_append, List.range_succ, List.map_append, List.sum_append]
    simp only [List.map_cons, List.map_nil, List.sum_cons, List.sum_nil]
    omega
theorem texts_once (st : RunSt) (j : Nat) : ((List.range j).map fun (i : Nat) => (textsTo st (i : Int)).length).sum + (st.coming.filter fun (l : Line) => decide (l.goal.1 = 1)).length ≤ st.coming.length := by
  unfold textsTo
  generalize st.coming = co
  induction co with
  | nil =>
    have : ((List.range j).map fun (i : Nat) => ((([] : List Line).filter fun (l : Line) => decide (l.goal = (0, (i : Int)))).map Line.x).length).sum = 0 := by
      induction j with
      | zero => rfl
      | succ j ih => rw [List.range_succ, List.map_append, List.sum_append, ih]; rfl
    rw [this]; simp
  | cons l co ih =>
    have key : ∀ j : Nat, ((List.range j).map fun (i : Nat) => (((l :: co).filter fun (l : Line) => decide (l.goal = (0, (i : Int)))).map Line.x).length).sum = ((List.range j).map fun (i : Nat) => ((co.filter fun (l : Line) => decide (l.goal = (0, (i : Int)))).map Line.x).length).sum + (if l.goal.1 = 0 ∧ 0 ≤ l.goal.2 ∧ l.goal.2 < (j : Int) then 1 else 0) := by
      intro j
      induction j with
      | zero => simp
      | succ j ih2 =>
        rw [List.range_succ, List.map_append, List.map_append, List.sum_append, List.sum_append, ih2]
        simp only [List.map_cons, List.map_nil, List.sum_cons, List.sum_nil, List.filter_cons]
        by_cases e : l.goal = (0, (j : Int))
        · have e1 : l.goal.1 = 0 := by rw [e]
          have e3 : l.goal.2 = (j : Int) := by rw [e]
          rw [if_pos (decide_eq_true e), if_neg (by omega), if_pos (by omega), List.map_cons, List.length_cons]
          omega
        · have e2 : ¬ (l.goal.1 = 0 ∧ l.goal.2 = (j : Int)) := fun z => e (Prod.ext z.1 z.2)
          simp [e]
          split <;> split <;> omega
    rw [key]
    simp only [List.filter_cons, List.length_cons]
    split <;> split <;> simp_all <;> omega
def weight (st : RunSt) : Nat := st.coming.length + wsum st.hosts + st.letters.length
theorem step_w {N : Net} {s : Sec} {ps : List Posting} {st : RunSt} {tick : Int} (hl : st.hosts.length = (hostCount N).toNat) : weight (stepS N s ps st tick) ≤ weight st + (postedAt ps tick).length := by
  have h1 := mid_w (N := N) (s := s) (ps := ps) (st := st) (tick := tick) (hostCount N).toNat (by omega)
  have h2 := texts_once st (hostCount N).toNat
  have h3 : (lettersAt st tick).length = (st.coming.filter fun (l : Line) => decide (l.goal.1 = 1)).length := by
    unfold lettersAt
    rw [List.length_map]
    exact ((sortBy_perm lineD st.coming).filter _).length_eq
  show (sortBy lineD _).length + wsum _ + (st.letters ++ _).length ≤ _
  rw [sortBy_len, List.length_append, h3]
  unfold weight
  have h4 : (midP N s ps st tick (hostCount N).toNat) = stepHere N s ps st tick := rfl
  rw [h4] at h1
  show (stepHere N s ps st tick).1.length + wsum (stepHere N s ps st tick).2.hosts + _ ≤ _
  omega
theorem run_w {N : Net} {s : Sec} {ps : List Posting} (hN : NetOk N) : ∀ t : Nat, weight (runS N s ps t) ≤ (ps.filter fun p => decide (0 ≤ p.t ∧ p.t < (t : Int))).length ∧ (runS N s ps t).hosts.length = (hostCount N).toNat
  | 0 => by
    have e : runS N s ps 0 = run0 N := rfl
    rw [e]
    refine ⟨?_, by unfold run0; simp⟩
    have : wsum (run0 N).hosts = 0 := by
      unfold run0 wsum
      simp
    unfold weight
    rw [this]
    exact Nat.zero_le _
  | t + 1 => by
    obtain ⟨a, b⟩ := run_w (s := s) (ps := ps) hN t
    rw [runS_succ]
    refine ⟨?_, step_len b⟩
    have h1 := step_w (s := s) (ps := ps) (tick := (t : Int)) b
    have h2 : (ps.filter fun p => decide (0 ≤ p.t ∧ p.t < (t : Int))).length + (postedAt ps (t : Int)).length ≤ (ps.filter fun p => decide (0 ≤ p.t ∧ p.t < ((t + 1 : Nat) : Int))).length := by
      unfold postedAt
      rw [List.length_map]
      clear h1 a b
      induction ps with
      | nil => simp
      | cons p ps ih =>
        simp only [List.filter_cons]
        split <;> split <;> split <;> simp_all <;> omega
    omega
theorem run_weight {N : Net} {s : Sec} {ps : List Posting} (hN : NetOk N) (t : Nat) : weight (runS N s ps t) ≤ ps.length := Nat.le_trans (run_w hN t).1 (List.length_filter_le _ _)
--END
end Lw

set_option Elab.async false
set_option linter.all false
set_option maxRecDepth 100000
set_option maxHeartbeats 4000000
namespace Lw
open PySem PySem.Spec PyProof.Rows L2 D2
--BEGIN
/-! ### letters on their way -/
def bodyAt (N : Net) (s : Sec) (o : Order) (i : Nat) : List Int := (bodiesOf N s o).getD i []
def goalAt (N : Net) (o : Order) (i : Nat) : Pl2 := if i < N.st.length then (0, o.ro.getD i 0) else (1, o.r)
structure Track (N : Net) (s : Sec) (o : Order) (i : Nat) (x : Text) : Prop where
  tag : x.tag = o.tg.getD i 0
  len : (x.body.length : Int) = longOf N
  pre : x.body.take ((longOf N).toNat - 3 * i) = (bodyAt N s o i).take ((longOf N).toNat - 3 * i)
theorem off_over {a b : List Int} (hl : a.length ≤ b.length) (ha : ∀ x ∈ a, 0 ≤ x ∧ x < 97) : offL (overL a b) b = a := by
  induction a generalizing b with
  | nil => rfl
  | cons x a ih =>
    cases b with
    | nil => simp at hl
    | cons y b =>
      have e : offL (overL (x :: a) (y :: b)) (y :: b) = (((x + y) % 97 - y) % 97) :: offL (overL a b) b := rfl
      rw [e, ih (by simpa using hl) fun z hz => ha z (List.mem_cons_of_mem _ hz)]
      have := ha x List.mem_cons_self
      congr 1
      omega
theorem tk_zip {α β : Type} : ∀ (n : Nat) (a : List α) (b : List β), (a.zip b).take n = (a.take n).zip (b.take n)
  | 0, _, _ => rfl
  | n + 1, [], _ => rfl
  | n + 1, _ :: _, [] => rfl
  | n + 1, x :: a, y :: b => by rw [List.zip_cons_cons, List.take_succ_cons, List.take_succ_cons, List.take_succ_cons, List.zip_cons_cons, tk_zip n a b]
theorem zip_at {α β : Type} {a : List α} {b : List β} {i : Nat} {x : α} {y : β} (h1 : a[i]? = some x) (h2 : b[i]? = some y) : (a.zip b)[i]? = some (x, y) := List.getElem?_zip_eq_some.mpr ⟨h1, h2⟩
theorem off_take (a b : List Int) (n : Nat) : (offL a b).take n = offL (a.take n) (b.take n) := by
  unfold offL
  rw [← List.map_take, tk_zip]
theorem off_take2 {a b c : List Int} {n : Nat} (h : a.take n = c.take n) : (offL a b).take n = (offL c b).take n := by rw [off_take, off_take, h]
theorem place_at {N : Net} {o : Order} (h : OrderOk N o) {i : Nat} (hi : i < N.st.length) : (orderPlaces o)[i]? = some [0, o.ro.getD i 0, o.tg.getD i 0] := by
  have h1 := h.way.ro.len
  have h2 := h.way.tl
  unfold orderPlaces placesOf
  rw [List.getElem?_map, zip_at (x := [0, o.ro.getD i 0]) (y := o.tg.getD i 0) ?_ ?_]
  · rfl
  · rw [List.getElem?_append_left (by rw [List.length_map]; omega), List.getElem?_map, List.getD_eq_getElem?_getD, List.getElem?_eq_getElem (show i < o.ro.length by omega)]; rfl
  · rw [List.getD_eq_getElem?_getD, List.getElem?_eq_getElem (show i < o.tg.length by omega)]; rfl
def headAt (N : Net) (o : Order) (i : Nat) : Int := if i + 1 < N.st.length then o.ro.getD (i + 1) 0 else o.r
theorem heads_at {N : Net} {o : Order} (h : OrderOk N o) {i : Nat} (hi : i < N.st.length) : (headsOf o)[i]? = some [headAt N o i, o.tg.getD (i + 1) 0 / 97, o.tg.getD (i + 1) 0 % 97] := by
  have h1 := h.way.ro.len
  have h2 := h.way.tl
  unfold headsOf headAt
  rw [List.getElem?_map, zip_at (x := (if i + 1 < N.st.length then o.ro.getD (i + 1) 0 else o.r)) (y := o.tg.getD (i + 1) 0) ?_ ?_]
  · rfl
  · by_cases c : i + 1 < N.st.length
    · rw [if_pos c, List.getElem?_append_left (by rw [List.length_drop]; omega), List.getElem?_drop, List.getD_eq_getElem?_getD, Nat.add_comm 1 i, List.getElem?_eq_getElem (show i + 1 < o.ro.length by omega)]; rfl
    · rw [if_neg c, List.getElem?_append_right (by rw [List.length_drop]; omega), List.length_drop]
      have : i - (o.ro.length - 1) = 0 := by omega
      rw [this]; rfl
  · rw [List.getElem?_drop, List.getD_eq_getElem?_getD, Nat.add_comm 1 i, List.getElem?_eq_getElem (show i + 1 < o.tg.length by omega)]; rfl
theorem bodiesR_at (long : Int) (b0 : List Int) : ∀ (l : List (List Int × List Int)) (i : Nat) (hp : List Int × List Int), l[i]? = some hp → (bodiesR long b0 l).getD i [] = overL (hp.1 ++ ((bodiesR long b0 l).getD (i + 1) []).take (long - 3).toNat) hp.2
  | [], i, hp, e => by simp at e
  | q :: r, 0, hp, e => by
    have : q = hp := by simpa using e
    subst this
    unfold bodiesR
    rw [List.getD_cons_zero, List.getD_cons_succ]
    congr 3
    cases bodiesR long b0 r <;> rfl
  | q :: r, i + 1, hp, e => by
    have ih := bodiesR_at long b0 r i hp (by simpa using e)
    unfold bodiesR
    rw [List.getD_cons_succ, List.getD_cons_succ]
    exact ih
/-- what a host finds under a letter's layer -/
theorem peel_at {N : Net} {s : Sec} {o : Order} (h : SealOk N s o) {i : Nat} (hi : i < N.st.length) {x : Text} (t : Track N s o i x) :
    [0, o.ro.getD i 0, x.tag] ∈ s.map (·.1) ∧ headNo s (o.ro.getD i 0) x = headAt N o i ∧ Track N s o (i + 1) (peelText N (padOf s (o.ro.getD i 0) x) x) := by
  have hpl := place_at h.ord hi
  have hmem : [0, o.ro.getD i 0, o.tg.getD i 0] ∈ orderPlaces o := List.mem_of_getElem? hpl
  have hkey := h.all _ hmem
  have hl := long_in h.net
  have hs3 := h.net.s3
  have hw := h.net.w1
  have hlg : longOf N = 3 * (N.st.length : Int) + N.w := rfl
  obtain ⟨hp1, hp2⟩ := h.pads
  have hpad : (padsOf s o)[i]? = some (padOf s (o.ro.getD i 0) x) := by
    unfold padsOf padOf
    rw [List.getElem?_map, hpl, t.tag]; rfl
  generalize hP : padOf s (o.ro.getD i 0) x = P at *
  have hPl := hp2 P (List.mem_of_getElem? hpad)
  have hz : ((headsOf o).zip (padsOf s o))[i]? = some ([headAt N o i, o.tg.getD (i + 1) 0 / 97, o.tg.getD (i + 1) 0 % 97], P) := List.getElem?_zip_eq_some.mpr ⟨heads_at h.ord hi, hpad⟩
  have hB : bodyAt N s o i = overL ([headAt N o i, o.tg.getD (i + 1) 0 / 97, o.tg.getD (i + 1) 0 % 97] ++ (bodyAt N s o (i + 1)).take (longOf N - 3).toNat) P := by
    unfold bodyAt
    rw [bodies_eq]
    exact bodiesR_at _ _ _ i _ hz
  have hB1 : okB (longOf N) (bodyAt N s o (i + 1)) := h.bods _ (getD_mem (by rw [h.blen]; omega))
  have htg : 0 ≤ o.tg.getD (i + 1) 0 ∧ o.tg.getD (i + 1) 0 < 9409 := h.ord.way.tg _ (getD_mem (by rw [h.ord.way.tl]; omega))
  have hhd : 0 ≤ headAt N o i ∧ headAt N o i < 97 := by
    unfold headAt
    split
    · have := h.ord.way.ro.un _ (getD_mem (d := 0) (xs := o.ro) (k := i + 1) (by rw [h.ord.way.ro.len]; omega))
      have := count_in h.net
      omega
    · have := h.ord.way.r0; have := h.ord.way.rn; have := h.net.n6
      omega
  have hfull : offL (bodyAt N s o i) P = [headAt N o i, o.tg.getD (i + 1) 0 / 97, o.tg.getD (i + 1) 0 % 97] ++ (bodyAt N s o (i + 1)).take (longOf N - 3).toNat := by
    rw [hB]
    refine off_over ?_ fun z hz => ?_
    · rw [List.length_append, List.length_take]; have := hB1.1; simp; omega
    · rcases List.mem_append.mp hz with w | w
      · simp only [List.mem_cons, List.mem_nil_iff, or_false] at w
        rcases w with rfl | rfl | rfl <;> omega
      · exact hB1.2 z (List.mem_of_mem_take w)
  have hpre : (plainOf P x).take ((longOf N).toNat - 3 * i) = ([headAt N o i, o.tg.getD (i + 1) 0 / 97, o.tg.getD (i + 1) 0 % 97] ++ (bodyAt N s o (i + 1)).take (longOf N - 3).toNat).take ((longOf N).toNat - 3 * i) := by
    rw [← hfull]
    exact off_take2 t.pre
  have hlen : 3 ≤ (longOf N).toNat - 3 * i := by omega
  have hplen : (plainOf P x).length = x.body.length := off_len (by have := t.len; omega)
  -- the first three
  obtain ⟨a, b, c, r, er⟩ : ∃ a b c r, plainOf P x = a :: b :: c :: r := by
    have : 3 ≤ (plainOf P x).length := by rw [hplen]; have := t.len; omega
    match plainOf P x, this with
    | a :: b :: c :: r, _ => exact ⟨a, b, c, r, rfl⟩
  obtain ⟨m, em⟩ : ∃ m, (longOf N).toNat - 3 * i = m + 3 := ⟨(longOf N).toNat - 3 * i - 3, by omega⟩
  rw [er, em] at hpre
  have hp' : a :: b :: c :: r.take m = headAt N o i :: (o.tg.getD (i + 1) 0 / 97) :: (o.tg.getD (i + 1) 0 % 97) :: ((bodyAt N s o (i + 1)).take (longOf N - 3).toNat).take m := hpre
  injection hp' with ea hp'
  injection hp' with eb hp'
  injection hp' with ec hp'
  refine ⟨by rw [t.tag]; exact hkey, ?_, ?_, ?_, ?_⟩
  · unfold headNo
    rw [hP, er, ← ea]; rfl
  · show (plainOf P x).getD 1 0 * 97 + (plainOf P x).getD 2 0 = _
    rw [er]
    show b * 97 + c = _
    rw [eb, ec]
    omega
  · show (((plainOf P x).drop 3 ++ P.drop (longOf N).toNat).length : Int) = _
    rw [List.length_append, List.length_drop, List.length_drop, hplen]
    have := t.len
    omega
  · show ((plainOf P x).drop 3 ++ P.drop (longOf N).toNat).take _ = _
    have e1 : (longOf N).toNat - 3 * (i + 1) = m := by omega
    have hrl : m ≤ r.length := by
      have := hplen
      rw [er] at this
      have := t.len
      simp at *
      omega
    rw [e1, er]
    show (r ++ P.drop (longOf N).toNat).take m = _
    rw [List.take_append_of_le_length hrl, hp', List.take_take, Nat.min_eq_left (by omega)]
theorem stage_mem {h : Int} : ∀ {l : List (List Rule)} {j k : Nat} {last : Int}, last ≤ h → ended ((l.zipIdx k).foldlM (stageT h) last) .none = .int ((k + j : Nat) : Int) → j < l.length ∧ last + ((l.take j).map fun s => (s.length : Int)).sum ≤ h ∧ h < last + ((l.take j).map fun s => (s.length : Int)).sum + ((l.getD j []).length : Int)
  | [], j, k, last, h0, e => by cases e
  | s :: l, j, k, last, h0, e => by
    rw [List.zipIdx_cons, List.foldlM_cons] at e
    by_cases c : h < last + (s.length : Int)
    · have e3 : stageT h last (s, k) = .error (.int (k : Int)) := by unfold stageT turn; rw [if_pos]; simp; omega
      rw [e3] at e
      have e4 : PyData.int (k : Int) = .int ((k + j : Nat) : Int) := e
      injection e4 with e4
      have : j = 0 := by omega
      subst this
      refine ⟨by simp, ?_, ?_⟩
      · simpa using h0
      · simpa using c
    · have e3 : stageT h last (s, k) = .ok (last + (s.length : Int)) := by unfold stageT turn; rw [if_neg]; simp; omega
      rw [e3] at e
      cases j with
      | zero =>
        exfalso
        have key : ∀ (l : List (List Rule)) (k' : Nat) (last : Int), k < k' → ended ((l.zipIdx k').foldlM (stageT h) last) .none ≠ .int (k : Int) := by
          intro l
          induction l with
          | nil => intro k' last hk z; cases z
          | cons q l ih =>
            intro k' last hk z
            rw [List.zipIdx_cons, List.foldlM_cons] at z
            by_cases c2 : h < last + (q.length : Int)
            · have e5 : stageT h last (q, k') = .error (.int (k' : Int)) := by unfold stageT turn; simp [c2]
              rw [e5] at z
              have : PyData.int (k' : Int) = .int (k : Int) := z
              injection this with this
              omega
            · have e5 : stageT h last (q, k') = .ok (last + (q.length : Int)) := by unfold stageT turn; simp [c2]
              rw [e5] at z
              exact ih (k' + 1) _ (by omega) z
        exact key l (k + 1) _ (Nat.lt_succ_self k) e
      | succ j =>
        obtain ⟨a, b, d⟩ := stage_mem (h := h) (l := l) (j := j) (k := k + 1) (last := last + (s.length : Int)) (by omega) (by rw [show k + 1 + j = k + (j + 1) by omega]; exact e)
        rw [List.take_succ_cons, List.map_cons, List.sum_cons, List.getD_cons_succ]
        exact ⟨by simpa using a, by omega, by omega⟩
theorem mem_rng {lo : Int} {n : Nat} {x : Int} (h0 : lo ≤ x) (h1 : x < lo + n) : x ∈ rng lo n := by
  unfold rng
  exact List.mem_map.mpr ⟨(x - lo).toNat, List.mem_range.mpr (by omega), by omega⟩
theorem next_at {N : Net} {s : Sec} {o : Order} (h : SealOk N s o) {i : Nat} (hi : i < N.st.length) {x : Text} (t : Track N s o i x) :
    sendG N (o.ro.getD i 0) s x = some (goalAt N o (i + 1), peelText N (padOf s (o.ro.getD i 0) x) x) := by
  obtain ⟨a, b, c⟩ := peel_at h hi t
  have st : ∀ j, j < N.st.length → stageBy N (o.ro.getD j 0) = .int (j : Int) ∧ 0 ≤ o.ro.getD j 0 := fun j hj => by
    have hl := h.ord.way.ro.len
    have hm : (o.ro.getD j 0, j) ∈ o.ro.zipIdx := List.mem_zipIdx_iff_getElem?.mpr (by rw [List.getD_eq_getElem?_getD, List.getElem?_eq_getElem (show j < o.ro.length by omega)]; rfl)
    exact ⟨h.ord.way.ro.st _ hm, (h.ord.way.ro.un _ (getD_mem (by omega))).1⟩
  unfold sendG nextG stageOf goalAt
  rw [b, (st i hi).1]
  unfold headAt
  by_cases c1 : i + 1 < N.st.length
  · have hm := (st (i + 1) c1)
    obtain ⟨a1, a2, a3⟩ := stage_mem (h := o.ro.getD (i + 1) 0) (l := N.st) (j := i + 1) (k := 0) (last := 0) hm.2 (by rw [Nat.zero_add]; exact hm.1)
    have hin : o.ro.getD (i + 1) 0 ∈ hostsBy N (i + 1) := mem_rng (by unfold firstOf; omega) (by unfold firstOf; omega)
    have e1 : ((i : Int) + 1).toNat = i + 1 := by omega
    simp only [if_pos c1, e1]
    rw [if_pos (show (i : Int) + 1 < (N.st.length : Int) by omega), if_pos hin]; rfl
  · simp only [if_neg c1]
    rw [if_neg (show ¬ (i : Int) + 1 < (N.st.length : Int) by omega), if_pos h.ord.way.rn]; rfl
--END
end Lw

set_option Elab.async false
set_option linter.all false
set_option maxRecDepth 100000
set_option maxHeartbeats 4000000
namespace Lw
open PySem PySem.Spec PyProof.Rows L2 D2
--BEGIN
structure Sys (N : Net) (s : Sec) (os : List Order) : Prop where
  net : NetOk N
  sl : ∀ o ∈ os, SealOk N s o
  nd : (os.flatMap orderPlaces).Nodup
def OnL (N : Net) (s : Sec) (os : List Order) (l : Line) : Prop := ∃ o ∈ os, ∃ i, i ≤ N.st.length ∧ l.goal = goalAt N o i ∧ Track N s o i l.x
def OnW (N : Net) (s : Sec) (os : List Order) (h : Int) (x : Text) : Prop := ∃ o ∈ os, ∃ i, i < N.st.length ∧ o.ro.getD i 0 = h ∧ Track N s o i x
structure TInv (N : Net) (s : Sec) (os : List Order) (st : RunSt) : Prop where
  len : st.hosts.length = (hostCount N).toNat
  co : ∀ l ∈ st.coming, OnL N s os l
  wa : ∀ i : Nat, i < (hostCount N).toNat → ∀ w ∈ (hostAt st (i : Int)).waiting, OnW N s os (i : Int) w.1
  le : ∀ l ∈ st.letters, ∃ o ∈ os, l.p = o.r
theorem goal0 {N : Net} {o : Order} {i : Nat} {h : Int} (e : goalAt N o i = (0, h)) : i < N.st.length ∧ o.ro.getD i 0 = h := by
  unfold goalAt at e
  split at e
  · rename_i c
    exact ⟨c, congrArg Prod.snd e⟩
  · have := congrArg Prod.fst e
    simp at this
theorem texts_on {N : Net} {s : Sec} {os : List Order} {st : RunSt} (T : TInv N s os st) {h : Int} {x : Text} (hx : x ∈ textsTo st h) : OnW N s os h x := by
  unfold textsTo at hx
  obtain ⟨l, hl, rfl⟩ := List.mem_map.mp hx
  obtain ⟨hl, hg⟩ := List.mem_filter.mp hl
  obtain ⟨o, ho, i, hi, e, t⟩ := T.co l hl
  obtain ⟨a, b⟩ := goal0 (e.symm.trans (of_decide_eq_true hg))
  exact ⟨o, ho, i, a, b, t⟩
theorem gone_on {N : Net} {s : Sec} {os : List Order} {st : RunSt} (T : TInv N s os st) {i : Nat} (hi : i < (hostCount N).toNat) {tick : Int} {x : Text} (hx : x ∈ goneAt N st (i : Int) tick) : OnW N s os (i : Int) x := by
  rcases leave_mem hx with z | ⟨w, hw, rfl⟩
  · exact texts_on T z
  · exact T.wa i hi w hw
theorem sends_src (N : Net) (h : Int) (s : Sec) : ∀ (l : List Text) (p : HostSt × List (Option (Pl2 × Text))) (q : Pl2 × Text), q ∈ (l.foldl (fun p x => ((sendOne N h s p.1 x).1, p.2 ++ [(sendOne N h s p.1 x).2])) p).2.filterMap id → q ∈ p.2.filterMap id ∨ ∃ x ∈ l, sendG N h s x = some q
  | [], p, q, hq => .inl hq
  | x :: l, p, q, hq => by
    rw [List.foldl_cons] at hq
    rcases sends_src N h s l _ q hq with z | ⟨y, hy, e⟩
    · rw [List.filterMap_append] at z
      rcases List.mem_append.mp z with w | w
      · exact .inl w
      · refine .inr ⟨x, List.mem_cons_self, ?_⟩
        have z2 : (sendOne N h s p.1 x).2 = some q := by
          cases e : (sendOne N h s p.1 x).2 with
          | none => rw [e] at w; simp at w
          | some r => rw [e] at w; simp at w; rw [w]
        unfold sendOne at z2
        split at z2
        · exact z2
        · cases z2
    · exact .inr ⟨y, List.mem_cons_of_mem _ hy, e⟩
theorem outs_mem {N : Net} {s : Sec} {st : RunSt} {h tick : Int} {q : Pl2 × Text} : q ∈ outsAt N s st h tick ↔ q ∈ (sentAt N s st h tick).2.filterMap id := by
  unfold outsAt
  rw [(sortBy_perm _ _).mem_iff, (sortBy_perm _ _).mem_iff]
theorem lines_on {N : Net} {s : Sec} {os : List Order} {st : RunSt} (S : Sys N s os) (T : TInv N s os st) {i : Nat} (hi : i < (hostCount N).toNat) {tick : Int} {l : Line} (hl : l ∈ hostStepL N s st (i : Int) tick) : OnL N s os l := by
  unfold hostStepL at hl
  obtain ⟨q, hq, rfl⟩ := List.mem_map.mp hl
  rcases sends_src N (i : Int) s _ _ q (outs_mem.mp hq) with z | ⟨x, hx, e⟩
  · simp at z
  · obtain ⟨o, ho, j, hj, er, t⟩ := gone_on T hi hx
    have n1 := next_at (S.sl o ho) hj t
    rw [er, e] at n1
    have hq2 := Option.some.inj n1
    have pk := (peel_at (S.sl o ho) hj t).2.2
    rw [er] at pk
    exact ⟨o, ho, j + 1, hj, by rw [hq2], by rw [hq2]; exact pk⟩
theorem first_text {N : Net} {s : Sec} {o : Order} (h : SealOk N s o) : Track N s o 0 (postOf N s o).x := by
  have h1 := h.ord.way.tl
  have h2 := h.blen
  have e : (postOf N s o).x = ⟨o.tg.getD 0 0, bodyAt N s o 0⟩ := by
    show (textsOf N s o).getD 0 ⟨0, []⟩ = _
    unfold textsOf
    rw [List.getD_eq_getElem?_getD, List.getElem?_map, zip_at (x := o.tg.getD 0 0) (y := bodyAt N s o 0)]
    · rfl
    · rw [List.getD_eq_getElem?_getD, List.getElem?_eq_getElem (show 0 < o.tg.length by omega)]; rfl
    · unfold bodyAt; rw [List.getD_eq_getElem?_getD, List.getElem?_eq_getElem (show 0 < (bodiesOf N s o).length by omega)]; rfl
  rw [e]
  exact ⟨rfl, (h.bods _ (getD_mem (by omega))).1, rfl⟩
theorem posted_on {N : Net} {s : Sec} {os : List Order} (S : Sys N s os) {tick : Int} {l : Line} (hl : l ∈ postedAt (os.map (postOf N s)) tick) : OnL N s os l := by
  unfold postedAt at hl
  obtain ⟨p, hp, rfl⟩ := List.mem_map.mp hl
  obtain ⟨o, ho, rfl⟩ := List.mem_map.mp (List.mem_filter.mp hp).1
  refine ⟨o, ho, 0, Nat.zero_le _, ?_, first_text (S.sl o ho)⟩
  have := S.net.s1
  unfold goalAt
  rw [if_pos (by omega)]; rfl
theorem posted_has {N : Net} {s : Sec} {os : List Order} {o : Order} (ho : o ∈ os) : postLine (postOf N s o) ∈ postedAt (os.map (postOf N s)) o.t :=
  List.mem_map.mpr ⟨postOf N s o, List.mem_filter.mpr ⟨List.mem_map.mpr ⟨o, ho, rfl⟩, decide_eq_true rfl⟩, rfl⟩
theorem step_tinv {N : Net} {s : Sec} {os : List Order} {st : RunSt} (S : Sys N s os) (T : TInv N s os st) (tick : Int) : TInv N s os (stepS N s (os.map (postOf N s)) st tick) := by
  have hl := T.len
  refine ⟨step_len hl, fun l hm => ?_, fun i hi w hw => ?_, fun l hm => ?_⟩
  · rcases (step_coming hl l).mp hm with z | ⟨i, hi, z⟩
    · exact posted_on S z
    · exact lines_on S T hi z
  · rw [step_host hl (by omega), sent_wait] at hw
    have hw' := List.mem_of_mem_drop hw
    unfold leaveW at hw'
    rcases List.mem_append.mp hw' with z | z
    · exact T.wa i hi w z
    · obtain ⟨x, hx, rfl⟩ := List.mem_map.mp z
      exact texts_on T ((sortBy_perm _ _).mem_iff.mp hx)
  · rcases List.mem_append.mp (show l ∈ st.letters ++ lettersAt st tick from hm) with z | z
    · exact T.le l z
    · unfold lettersAt at z
      obtain ⟨c, hc, rfl⟩ := List.mem_map.mp z
      obtain ⟨hc, h1⟩ := List.mem_filter.mp hc
      obtain ⟨o, ho, i, hi, e, t⟩ := T.co c ((sortBy_perm _ _).mem_iff.mp hc)
      refine ⟨o, ho, ?_⟩
      show c.goal.2 = o.r
      have h1' := of_decide_eq_true h1
      rw [e] at h1' ⊢
      unfold goalAt at h1' ⊢
      split
      · rename_i c2
        rw [if_pos c2] at h1'
        simp at h1'
      · rfl
theorem run_tinv {N : Net} {s : Sec} {os : List Order} (S : Sys N s os) : ∀ t : Nat, TInv N s os (runS N s (os.map (postOf N s)) t)
  | 0 => by
    have e : runS N s (os.map (postOf N s)) 0 = run0 N := rfl
    rw [e]
    refine ⟨by unfold run0; simp, fun l hl => by simp [run0] at hl, fun i hi w hw => ?_, fun l hl => by simp [run0] at hl⟩
    have : (hostAt (run0 N) (i : Int)).waiting = [] := by
      unfold hostAt run0
      rw [Int.toNat_natCast]
      show ((List.replicate (hostCount N).toNat (⟨[], []⟩ : HostSt))[i]?.getD _).waiting = _
      rw [List.getElem?_replicate, if_pos hi]; rfl
    rw [this] at hw
    simp at hw
  | t + 1 => by rw [runS_succ]; exact step_tinv S (run_tinv S t) _
/-! ### what a host has let through -/
theorem one_used (N : Net) (h : Int) (s : Sec) (st : HostSt) (x : Text) : (∀ g ∈ st.used, g ∈ (sendOne N h s st x).1.used) ∧ ([0, h, x.tag] ∈ s.map (·.1) → x.tag ∈ (sendOne N h s st x).1.used) ∧ (∀ g ∈ (sendOne N h s st x).1.used, g ∈ st.used ∨ (x.tag = g ∧ (sendOne N h s st x).2 = sendG N h s x)) := by
  unfold sendOne
  split
  · rename_i c
    refine ⟨fun g hg => List.mem_append_left _ hg, fun _ => List.mem_append_right _ (by simp), fun g hg => ?_⟩
    rcases List.mem_append.mp hg with z | z
    · exact .inl z
    · have : g = x.tag := by simpa using z
      exact .inr ⟨this.symm, rfl⟩
  · rename_i c
    refine ⟨fun g hg => hg, fun hk => ?_, fun g hg => .inl hg⟩
    exact Classical.byContradiction fun z => c ⟨hk, z⟩
theorem sends_used (N : Net) (h : Int) (s : Sec) : ∀ (l : List Text) (p : HostSt × List (Option (Pl2 × Text))), (∀ g ∈ p.1.used, g ∈ (l.foldl (fun p x => ((sendOne N h s p.1 x).1, p.2 ++ [(sendOne N h s p.1 x).2])) p).1.used) ∧ (∀ q ∈ p.2, q ∈ (l.foldl (fun p x => ((sendOne N h s p.1 x).1, p.2 ++ [(sendOne N h s p.1 x).2])) p).2) ∧
    (∀ x ∈ l, [0, h, x.tag] ∈ s.map (·.1) → x.tag ∈ (l.foldl (fun p x => ((sendOne N h s p.1 x).1, p.2 ++ [(sendOne N h s p.1 x).2])) p).1.used) ∧
    (∀ g ∈ (l.foldl (fun p x => ((sendOne N h s p.1 x).1, p.2 ++ [(sendOne N h s p.1 x).2])) p).1.used, g ∈ p.1.used ∨ ∃ x ∈ l, x.tag = g ∧ sendG N h s x ∈ (l.foldl (fun p x => ((sendOne N h s p.1 x).1, p.2 ++ [(sendOne N h s p.1 x).2])) p).2)
  | [], p => ⟨fun g hg => hg, fun q hq => hq, fun x hx => by simp at hx, fun g hg => .inl hg⟩
  | x :: l, p => by
    obtain ⟨a, b, c⟩ := one_used N h s p.1 x
    obtain ⟨a2, b2, c2, d2⟩ := sends_used N h s l ((sendOne N h s p.1 x).1, p.2 ++ [(sendOne N h s p.1 x).2])
    rw [List.foldl_cons]
    refine ⟨fun g hg => a2 g (a g hg), fun q hq => b2 q (List.mem_append_left _ hq), fun y hy hk => ?_, fun g hg => ?_⟩
    · rcases List.mem_cons.mp hy with rfl | hy
      · exact a2 _ (b hk)
      · exact c2 y hy hk
    · rcases d2 g hg with z | ⟨y, hy, e1, e2⟩
      · rcases c g z with w | ⟨e1, e2⟩
        · exact .inl w
        · exact .inr ⟨x, List.mem_cons_self, e1, b2 _ (List.mem_append_right _ (by rw [← e2]; simp))⟩
      · exact .inr ⟨y, List.mem_cons_of_mem _ hy, e1, e2⟩
/-! ### rules let letters go -/
theorem sent0 (w o t : Int) : sentBy [([], 0)] w o t = w := by simp [sentBy, sentV]
theorem sent1 {w o t : Int} (hw : 0 < w) (ho : 2 ≤ o) : sentBy [([.waiting 2], 0), ([.oldest 2], 0)] w o t = w := by simp [sentBy, sentV, holdsC]; omega
theorem sent2 {w o t : Int} (ht : t % 2 = 0) : sentBy [([.tick 2 0], 0)] w o t = w := by simp [sentBy, sentV, holdsC, ht]
theorem sent3 {w o t : Int} (ht : t % 3 = 1) : sentBy [([.tick 3 1], 0)] w o t = w := by simp [sentBy, sentV, holdsC, ht]
theorem sent4 {w o t : Int} (hw : 0 < w) (ho : 3 ≤ o) : 2 ≤ sentBy [([.waiting 3], 2), ([.oldest 3], 0)] w o t ∨ sentBy [([.waiting 3], 2), ([.oldest 3], 0)] w o t = w := by
  simp [sentBy, sentV, holdsC]
  by_cases c : 3 ≤ w
  · left; simp [c]; rw [Int.min_def]; split <;> omega
  · right; simp [c]; omega
theorem sent5 {w o t : Int} (ht : t % 4 = 3) : sentBy [([.tick 4 3], 0)] w o t = w := by simp [sentBy, sentV, holdsC, ht]
--END
end Lw

set_option Elab.async false
set_option linter.all false
set_option maxRecDepth 100000
set_option maxHeartbeats 4000000
namespace Lw
open PySem PySem.Spec PyProof.Rows L2 D2
--BEGIN
section
variable {N : Net} {s : Sec} {os : List Order}
/-- the queue that a host looks at, at a tick -/
def runAt (N : Net) (s : Sec) (os : List Order) (t : Nat) : RunSt := runS N s (os.map (postOf N s)) t
def runQ (N : Net) (s : Sec) (os : List Order) (h t : Nat) : List (Text × Int) := leaveW (hostAt (runAt N s os t) (h : Int)) (t : Int) (textsTo (runAt N s os t) (h : Int))
def runN (N : Net) (s : Sec) (os : List Order) (h t : Nat) : Nat := (leaveN N (h : Int) (hostAt (runAt N s os t) (h : Int)) (t : Int) (textsTo (runAt N s os t) (h : Int))).toNat
theorem runAt_succ (t : Nat) : runAt N s os (t + 1) = stepS N s (os.map (postOf N s)) (runAt N s os t) (t : Int) := runS_succ N s _ t
theorem runAt_len (S : Sys N s os) (t : Nat) : (runAt N s os t).hosts.length = (hostCount N).toNat := (run_tinv S t).len
theorem wait_succ (S : Sys N s os) {h : Nat} (hh : h < (hostCount N).toNat) (t : Nat) : (hostAt (runAt N s os (t + 1)) (h : Int)).waiting = (runQ N s os h t).drop (runN N s os h t) := by
  rw [runAt_succ, step_host (runAt_len S t) (by rw [runAt_len S t]; exact hh), sent_wait]
  rfl
theorem runQ_succ (S : Sys N s os) {h : Nat} (hh : h < (hostCount N).toNat) (t : Nat) : runQ N s os h (t + 1) = (runQ N s os h t).drop (runN N s os h t) ++ (sortBy textD (textsTo (runAt N s os (t + 1)) (h : Int))).map fun x => (x, ((t + 1 : Nat) : Int)) := by
  conv => lhs; unfold runQ leaveW
  rw [wait_succ S hh]
theorem wsum_at : ∀ {hs : List HostSt} {i : Nat} {x : HostSt}, hs[i]? = some x → x.waiting.length ≤ wsum hs
  | [], _, _, e => by simp at e
  | h :: hs, 0, x, e => by
    have : h = x := by simpa using e
    subst this
    unfold wsum
    rw [List.map_cons, List.sum_cons]; omega
  | h :: hs, i + 1, x, e => by
    have := wsum_at (show hs[i]? = some x by simpa using e)
    unfold wsum at *
    rw [List.map_cons, List.sum_cons]; omega
theorem runQ_len (S : Sys N s os) {h : Nat} (hh : h < (hostCount N).toNat) (t : Nat) : (runQ N s os h t).length ≤ os.length := by
  have hw := run_weight (s := s) (ps := os.map (postOf N s)) S.net t
  rw [List.length_map] at hw
  have hg : (runAt N s os t).hosts[h]? = some (hostAt (runAt N s os t) (h : Int)) := by
    unfold hostAt
    rw [Int.toNat_natCast, List.getElem?_eq_getElem (by rw [runAt_len S t]; exact hh)]; rfl
  have h1 := wsum_at hg
  have h2 := texts_len (st := runAt N s os t) (h := (h : Int))
  have h3 : weight (runAt N s os t) = (runAt N s os t).coming.length + wsum (runAt N s os t).hosts + (runAt N s os t).letters.length := rfl
  have h4 : weight (runAt N s os t) ≤ os.length := hw
  unfold runQ leaveW
  rw [List.length_append, List.length_map, sortBy_len]
  omega
/-- the first come wait first -/
theorem runQ_sorted (S : Sys N s os) {h : Nat} (hh : h < (hostCount N).toNat) : ∀ t : Nat, (runQ N s os h t).Pairwise (fun a b => a.2 ≤ b.2) ∧ ∀ a ∈ runQ N s os h t, a.2 ≤ (t : Int)
  | 0 => by
    have e : (hostAt (runAt N s os 0) (h : Int)).waiting = [] := by
      have : runAt N s os 0 = run0 N := rfl
      rw [this]
      unfold hostAt run0
      rw [Int.toNat_natCast]
      show ((List.replicate (hostCount N).toNat (⟨[], []⟩ : HostSt))[h]?.getD _).waiting = _
      rw [List.getElem?_replicate, if_pos hh]; rfl
    unfold runQ leaveW
    rw [e, List.nil_append]
    refine ⟨?_, fun a ha => ?_⟩
    · rw [List.pairwise_map]
      exact List.pairwise_of_forall fun _ _ => Int.le_refl _
    · obtain ⟨x, _, rfl⟩ := List.mem_map.mp ha
      exact Int.le_refl _
  | t + 1 => by
    obtain ⟨a, b⟩ := runQ_sorted S hh t
    rw [runQ_succ S hh]
    refine ⟨List.pairwise_append.mpr ⟨List.Pairwise.sublist (List.drop_sublist _ _) a, ?_, fun x hx y hy => ?_⟩, fun x hx => ?_⟩
    · rw [List.pairwise_map]
      exact List.pairwise_of_forall fun _ _ => Int.le_refl _
    · obtain ⟨z, _, rfl⟩ := List.mem_map.mp hy
      have := b x (List.mem_of_mem_drop hx)
      show x.2 ≤ ((t + 1 : Nat) : Int)
      omega
    · rcases List.mem_append.mp hx with z | z
      · have := b x (List.mem_of_mem_drop z)
        omega
      · obtain ⟨y, _, rfl⟩ := List.mem_map.mp z
        exact Int.le_refl _
theorem gone_ix {h t p : Nat} {x : Text} {k : Int} (e : (runQ N s os h t)[p]? = some (x, k)) (hp : p < runN N s os h t) : x ∈ goneAt N (runAt N s os t) (h : Int) (t : Int) := by
  show x ∈ ((runQ N s os h t).take (runN N s os h t)).map (·.1)
  refine List.mem_map.mpr ⟨(x, k), List.mem_of_getElem? (i := p) ?_, rfl⟩
  rw [List.getElem?_take_of_lt hp]; exact e
theorem stay_ix (S : Sys N s os) {h : Nat} (hh : h < (hostCount N).toNat) {t p : Nat} {e : Text × Int} (he : (runQ N s os h t)[p]? = some e) (hp : runN N s os h t ≤ p) : (runQ N s os h (t + 1))[p - runN N s os h t]? = some e := by
  have hl := (List.getElem?_eq_some_iff.mp he).1
  rw [runQ_succ S hh, List.getElem?_append_left (by rw [List.length_drop]; omega), List.getElem?_drop]
  rw [show runN N s os h t + (p - runN N s os h t) = p by omega]
  exact he
/-- how many leave, by the rule -/
theorem runN_eq {h : Nat} {t p : Nat} {x : Text} {t0 : Int} (S : Sys N s os) (hh : h < (hostCount N).toNat) (he : (runQ N s os h t)[p]? = some (x, t0)) :
    ∃ o : Int, (t : Int) - t0 ≤ o ∧ (runN N s os h t : Int) = sentBy (ruleAt N (h : Int)) ((runQ N s os h t).length : Int) o (t : Int) ∧ 0 < (runQ N s os h t).length ∧ p < (runQ N s os h t).length := by
  have hl := (List.getElem?_eq_some_iff.mp he).1
  have hs := (runQ_sorted S hh t).1
  have hok : HostOk N (h : Int) := ⟨S.net, by omega, by omega⟩
  have hn := leaveN_in hok (hostAt (runAt N s os t) (h : Int)) (t : Int) (textsTo (runAt N s os t) (h : Int))
  refine ⟨oldestOf (runQ N s os h t) (t : Int), ?_, ?_, by omega, hl⟩
  · cases eq : runQ N s os h t with
    | nil => rw [eq] at hl; simp at hl
    | cons a r =>
      show (t : Int) - t0 ≤ (t : Int) - a.2
      rw [eq] at he hs
      have : a.2 ≤ t0 := by
        rcases List.mem_cons.mp (List.mem_of_getElem? he) with z | z
        · rw [← z]; exact Int.le_refl _
        · exact (List.pairwise_cons.mp hs).1 _ z
      omega
  · unfold runN
    rw [Int.toNat_of_nonneg hn.1]
    rfl
/-- a letter that waits leaves within six ticks -/
theorem released (S : Sys N s os) (hr : ∀ h : Nat, h < (hostCount N).toNat → ruleAt N (h : Int) ∈ lawRules) (six : os.length ≤ 6) {h : Nat} (hh : h < (hostCount N).toNat) {t p : Nat} {x : Text} (he : (runQ N s os h t)[p]? = some (x, (t : Int))) :
    ∃ k : Nat, k ≤ 5 ∧ x ∈ goneAt N (runAt N s os (t + k)) (h : Int) ((t + k : Nat) : Int) := by
  apply Classical.byContradiction
  intro no
  have nx : ∀ u : Nat, t ≤ u → u ≤ t + 5 → ∀ p, (runQ N s os h u)[p]? = some (x, (t : Int)) → runN N s os h u ≤ p ∧ (runQ N s os h (u + 1))[p - runN N s os h u]? = some (x, (t : Int)) := fun u h0 hk p hp => by
    have h1 : runN N s os h u ≤ p := Nat.le_of_not_lt fun z => no ⟨u - t, by omega, by rw [show t + (u - t) = u by omega]; exact gone_ix hp z⟩
    exact ⟨h1, stay_ix S hh hp h1⟩
  obtain ⟨a0, b0⟩ := nx t (by omega) (by omega) p he
  obtain ⟨a1, b1⟩ := nx (t + 1) (by omega) (by omega) _ b0
  obtain ⟨a2, b2⟩ := nx (t + 2) (by omega) (by omega) _ b1
  obtain ⟨a3, b3⟩ := nx (t + 3) (by omega) (by omega) _ b2
  obtain ⟨a4, b4⟩ := nx (t + 4) (by omega) (by omega) _ b3
  obtain ⟨a5, b5⟩ := nx (t + 5) (by omega) (by omega) _ b4
  obtain ⟨o0, c0, d0, e0, f0⟩ := runN_eq (t := t) S hh he
  obtain ⟨o1, c1, d1, e1, f1⟩ := runN_eq (t := t + 1) S hh b0
  obtain ⟨o2, c2, d2, e2, f2⟩ := runN_eq (t := t + 2) S hh b1
  obtain ⟨o3, c3, d3, e3, f3⟩ := runN_eq (t := t + 3) S hh b2
  obtain ⟨o4, c4, d4, e4, f4⟩ := runN_eq (t := t + 4) S hh b3
  obtain ⟨o5, c5, d5, e5, f5⟩ := runN_eq (t := t + 5) S hh b4
  clear b0 b1 b2 b3 b4 b5 nx no
  have l0 := runQ_len S hh t
  have hm := hr h hh
  unfold lawRules at hm
  simp only [List.mem_cons, List.mem_nil_iff, or_false] at hm
  rcases hm with r | r | r | r | r | r
  · rw [r, sent0] at d0; omega
  · rw [r, sent1 (by omega) (by omega)] at d2; omega
  · rcases (show (t : Int) % 2 = 0 ∨ ((t + 1 : Nat) : Int) % 2 = 0 by omega) with z | z
    · rw [r, sent2 z] at d0; omega
    · rw [r, sent2 z] at d1; omega
  · rcases (show (t : Int) % 3 = 1 ∨ ((t + 1 : Nat) : Int) % 3 = 1 ∨ ((t + 2 : Nat) : Int) % 3 = 1 by omega) with z | z | z
    · rw [r, sent3 z] at d0; omega
    · rw [r, sent3 z] at d1; omega
    · rw [r, sent3 z] at d2; omega
  · have k3 := sent4 (w := ((runQ N s os h (t + 3)).length : Int)) (o := o3) (t := ((t + 3 : Nat) : Int)) (by omega) (by omega)
    have k4 := sent4 (w := ((runQ N s os h (t + 4)).length : Int)) (o := o4) (t := ((t + 4 : Nat) : Int)) (by omega) (by omega)
    have k5 := sent4 (w := ((runQ N s os h (t + 5)).length : Int)) (o := o5) (t := ((t + 5 : Nat) : Int)) (by omega) (by omega)
    rw [r] at d3 d4 d5
    omega
  · rcases (show (t : Int) % 4 = 3 ∨ ((t + 1 : Nat) : Int) % 4 = 3 ∨ ((t + 2 : Nat) : Int) % 4 = 3 ∨ ((t + 3 : Nat) : Int) % 4 = 3 by omega) with z | z | z | z
    · rw [r, sent5 z] at d0; omega
    · rw [r, sent5 z] at d1; omega
    · rw [r, sent5 z] at d2; omega
    · rw [r, sent5 z] at d3; omega
end
--END
end Lw

set_option Elab.async false
set_option linter.all false
set_option maxRecDepth 100000
set_option maxHeartbeats 4000000
namespace Lw
open PySem PySem.Spec PyProof.Rows L2 D2
--BEGIN
section
variable {N : Net} {s : Sec} {os : List Order}
theorem flat_same {α β : Type} {f : α → List β} : ∀ {l : List α}, (l.flatMap f).Nodup → ∀ {a b : α}, a ∈ l → b ∈ l → ∀ {p : β}, p ∈ f a → p ∈ f b → a = b
  | [], _, _, _, ha, _, _, _, _ => by simp at ha
  | x :: l, nd, a, b, ha, hb, p, pa, pb => by
    rw [List.flatMap_cons] at nd
    obtain ⟨n1, n2, n3⟩ := List.nodup_append.mp nd
    rcases List.mem_cons.mp ha with e1 | ha'
    · rcases List.mem_cons.mp hb with e2 | hb'
      · rw [e1, e2]
      · exact absurd rfl (n3 p (by rw [← e1]; exact pa) p (List.mem_flatMap.mpr ⟨b, hb', pb⟩))
    · rcases List.mem_cons.mp hb with e2 | hb'
      · exact absurd rfl (n3 p (by rw [← e2]; exact pb) p (List.mem_flatMap.mpr ⟨a, ha', pa⟩))
      · exact flat_same n2 ha' hb' pa pb
theorem flat_each {α β : Type} {f : α → List β} : ∀ {l : List α}, (l.flatMap f).Nodup → ∀ {a : α}, a ∈ l → (f a).Nodup
  | [], _, _, ha => by simp at ha
  | x :: l, nd, a, ha => by
    rw [List.flatMap_cons] at nd
    obtain ⟨n1, n2, n3⟩ := List.nodup_append.mp nd
    rcases List.mem_cons.mp ha with rfl | ha
    · exact n1
    · exact flat_each n2 ha
theorem least_of {P : Nat → Prop} : ∀ u : Nat, P u → ∃ v, v ≤ u ∧ P v ∧ ∀ w, w < v → ¬ P w := fun u => by
  induction u using Nat.strongRecOn with
  | ind u ih =>
    intro hu
    by_cases c : ∃ w, w < u ∧ P w
    · obtain ⟨w, hw, hp⟩ := c
      obtain ⟨v, h1, h2, h3⟩ := ih w hw hp
      exact ⟨v, by omega, h2, h3⟩
    · exact ⟨u, Nat.le_refl u, hu, fun w hw hp => c ⟨w, hw, hp⟩⟩
theorem used_succ (S : Sys N s os) {h : Nat} (hh : h < (hostCount N).toNat) (t : Nat) : (hostAt (runAt N s os (t + 1)) (h : Int)).used = (sentAt N s (runAt N s os t) (h : Int) (t : Int)).1.used := by
  rw [runAt_succ, step_host (runAt_len S t) (by rw [runAt_len S t]; exact hh)]
theorem used_zero {h : Nat} (hh : h < (hostCount N).toNat) : (hostAt (runAt N s os 0) (h : Int)).used = [] := by
  have : runAt N s os 0 = run0 N := rfl
  rw [this]
  unfold hostAt run0
  rw [Int.toNat_natCast]
  show ((List.replicate (hostCount N).toNat (⟨[], []⟩ : HostSt))[h]?.getD _).used = _
  rw [List.getElem?_replicate, if_pos hh]; rfl
/-- from one host to the next place -/
theorem hop (S : Sys N s os) (hr : ∀ h : Nat, h < (hostCount N).toNat → ruleAt N (h : Int) ∈ lawRules) (six : os.length ≤ 6) {o : Order} (ho : o ∈ os) {i : Nat} (hi : i < N.st.length) {τ : Nat} (hc : ∃ l ∈ (runAt N s os (τ + 1)).coming, l.goal = goalAt N o i ∧ Track N s o i l.x) :
    ∃ σ, σ ≤ τ + 6 ∧ ∃ l ∈ (runAt N s os (σ + 1)).coming, l.goal = goalAt N o (i + 1) ∧ Track N s o (i + 1) l.x := by
  obtain ⟨l, hl, hg, ht⟩ := hc
  have so := S.sl o ho
  have hun := so.ord.way.ro.un _ (getD_mem (d := 0) (xs := o.ro) (k := i) (by rw [so.ord.way.ro.len]; exact hi))
  obtain ⟨h, eh⟩ : ∃ h : Nat, (h : Int) = o.ro.getD i 0 := ⟨(o.ro.getD i 0).toNat, Int.toNat_of_nonneg hun.1⟩
  have hh : h < (hostCount N).toNat := by omega
  have hgo : l.goal = (0, (h : Int)) := by rw [hg, eh]; unfold goalAt; rw [if_pos hi]
  have hx : l.x ∈ textsTo (runAt N s os (τ + 1)) (h : Int) := List.mem_map.mpr ⟨l, List.mem_filter.mpr ⟨hl, decide_eq_true hgo⟩, rfl⟩
  have hq : (l.x, ((τ + 1 : Nat) : Int)) ∈ runQ N s os h (τ + 1) := by
    unfold runQ leaveW
    exact List.mem_append_right _ (List.mem_map.mpr ⟨l.x, (sortBy_perm _ _).mem_iff.mpr hx, rfl⟩)
  obtain ⟨p, hp⟩ := List.mem_iff_getElem?.mp hq
  obtain ⟨k, hk, hgone⟩ := released S hr six hh hp
  have hkey := (peel_at so hi ht).1
  rw [← eh] at hkey
  have hu : l.x.tag ∈ (hostAt (runAt N s os (τ + 1 + k + 1)) (h : Int)).used := by
    rw [used_succ S hh]
    exact (sends_used N (h : Int) s _ _).2.2.1 l.x hgone hkey
  obtain ⟨σ, h1, h2, h3⟩ := least_of (P := fun v => l.x.tag ∈ (hostAt (runAt N s os (v + 1)) (h : Int)).used) (τ + 1 + k) hu
  refine ⟨σ, by omega, ?_⟩
  have hold : ¬ l.x.tag ∈ (hostAt (runAt N s os σ) (h : Int)).used := by
    cases σ with
    | zero => rw [used_zero hh]; simp
    | succ σ => exact h3 σ (Nat.lt_succ_self σ)
  rw [used_succ S hh] at h2
  rcases (sends_used N (h : Int) s _ _).2.2.2 _ h2 with z | ⟨x', hx', e1, e2⟩
  · exact absurd z hold
  · obtain ⟨o', ho', i', hi', er, t'⟩ := gone_on (run_tinv S σ) hh hx'
    have so' := S.sl o' ho'
    have p1 := place_at so.ord hi
    have p2 := place_at so'.ord hi'
    rw [er, ← t'.tag, e1] at p2
    rw [← eh, ← ht.tag] at p1
    have eo : o' = o := flat_same S.nd ho' ho (List.mem_of_getElem? p2) (List.mem_of_getElem? p1)
    subst eo
    have ei : i' = i := by
      have hlt := (List.getElem?_eq_some_iff.mp p1).1
      have hn := flat_each S.nd ho
      have hlt' := (List.getElem?_eq_some_iff.mp p2).1
      exact (List.getElem?_inj hlt' hn).mp (p2.trans p1.symm)
    subst ei
    have n1 := next_at so hi t'
    have pk := (peel_at so hi t').2.2
    rw [er] at n1 pk
    rw [n1] at e2
    have hout : (goalAt N o' (i' + 1), peelText N (padOf s (h : Int) x') x') ∈ outsAt N s (runAt N s os σ) (h : Int) (σ : Int) := outs_mem.mpr (List.mem_filterMap.mpr ⟨_, e2, rfl⟩)
    refine ⟨⟨(0, (h : Int)), goalAt N o' (i' + 1), peelText N (padOf s (h : Int) x') x'⟩, ?_, rfl, pk⟩
    rw [runAt_succ, step_coming (runAt_len S σ)]
    exact .inr ⟨h, hh, List.mem_map.mpr ⟨_, hout, rfl⟩⟩
theorem deliver (S : Sys N s os) (hr : ∀ h : Nat, h < (hostCount N).toNat → ruleAt N (h : Int) ∈ lawRules) (six : os.length ≤ 6) {o : Order} (ho : o ∈ os) (h0 : 0 ≤ o.t) : ∀ i : Nat, i ≤ N.st.length → ∃ τ : Nat, τ ≤ o.t.toNat + 6 * i ∧ ∃ l ∈ (runAt N s os (τ + 1)).coming, l.goal = goalAt N o i ∧ Track N s o i l.x
  | 0, _ => by
    refine ⟨o.t.toNat, by omega, postLine (postOf N s o), ?_, ?_, first_text (S.sl o ho)⟩
    · rw [runAt_succ, step_coming (runAt_len S _), Int.toNat_of_nonneg h0]
      exact .inl (posted_has ho)
    · have := S.net.s1
      unfold goalAt
      rw [if_pos (by omega)]; rfl
  | i + 1, hi => by
    obtain ⟨τ, h1, h2⟩ := deliver S hr six ho h0 i (by omega)
    obtain ⟨σ, h3, h4⟩ := hop S hr six ho hi h2
    exact ⟨σ, by omega, h4⟩
theorem letters_up (t k : Nat) : ∀ l ∈ (runAt N s os t).letters, l ∈ (runAt N s os (t + k)).letters := by
  induction k with
  | zero => exact fun l hl => hl
  | succ k ih =>
    intro l hl
    rw [show t + (k + 1) = (t + k) + 1 by omega, runAt_succ]
    exact List.mem_append_left _ (ih l hl)
/-- each letter comes to its reader -/
theorem comes (S : Sys N s os) (hr : ∀ h : Nat, h < (hostCount N).toNat → ruleAt N (h : Int) ∈ lawRules) (six : os.length ≤ 6) {o : Order} (ho : o ∈ os) (h0 : 0 ≤ o.t) (h3 : o.t ≤ 3) : ∃ l ∈ (runAt N s os 24).letters, l.p = o.r := by
  obtain ⟨τ, h1, l, hl, hg, ht⟩ := deliver S hr six ho h0 N.st.length (Nat.le_refl _)
  have hs3 := S.net.s3
  have hg' : l.goal = (1, o.r) := by rw [hg]; unfold goalAt; rw [if_neg (Nat.lt_irrefl _)]
  have hm : lettOf l ((τ + 1 : Nat) : Int) ∈ (runAt N s os (τ + 2)).letters := by
    rw [runAt_succ]
    refine List.mem_append_right _ (List.mem_map.mpr ⟨l, List.mem_filter.mpr ⟨(sortBy_perm _ _).mem_iff.mpr hl, decide_eq_true (by rw [hg'])⟩, rfl⟩)
  have := letters_up (N := N) (s := s) (os := os) (τ + 2) (22 - τ) _ hm
  rw [show τ + 2 + (22 - τ) = 24 by omega] at this
  exact ⟨_, this, by show l.goal.2 = o.r; rw [hg']⟩
theorem letters_few (S : Sys N s os) (t : Nat) : (runAt N s os t).letters.length ≤ os.length := by
  have hw := run_weight (s := s) (ps := os.map (postOf N s)) S.net t
  rw [List.length_map] at hw
  have h3 : weight (runAt N s os t) = (runAt N s os t).coming.length + wsum (runAt N s os t).hosts + (runAt N s os t).letters.length := rfl
  have h4 : weight (runAt N s os t) ≤ os.length := hw
  omega
end
--END
end Lw

set_option Elab.async false
set_option linter.all false
set_option maxRecDepth 100000
set_option maxHeartbeats 4000000
namespace Lw
open PySem PySem.Spec PyProof.Rows L2 D2
--BEGIN
/-! ### the law's own numbers -/
def lawDg (ns : List Int) : List Int := lawRow (lawAt ns 0) 4 1000
def lawM (ns : List Int) : Int := 2 + (lawDg ns).getD 0 0 % 6
def lawS (ns : List Int) : Int := if (lawDg ns).getD 1 0 % 4 < lawM ns then (lawDg ns).getD 1 0 % 4 else lawM ns
def lawMk (ns : List Int) : List Int := lawRow (lawAt ns 1) (8 * lawM ns) 3
def roundAt (ns : List Int) (k : Int) : List Int := (rng 0 (lawM ns).toNat).filter fun j => decide ((lawMk ns).getD (lawM ns * k + j).toNat 0 = 0)
def lawRs (ns : List Int) : List (List Int) := (rng 0 ((lawDg ns).getD 2 0 % 9).toNat).map (roundAt ns)
theorem ris_of {xs : List Int} (h : xs.Pairwise (· < ·)) : isRis xs = true := by
  unfold isRis
  refine List.all_eq_true.mpr fun i hi => ?_
  have := k_rng hi
  have h1 : (i - 1).toNat < xs.length := by omega
  have h2 : i.toNat < xs.length := by omega
  rw [List.getD_eq_getElem?_getD, List.getD_eq_getElem?_getD, List.getElem?_eq_getElem h1, List.getElem?_eq_getElem h2]
  exact decide_eq_true (List.pairwise_iff_getElem.mp h (i - 1).toNat i.toNat h1 h2 (by omega))
theorem filt_ok (m : Nat) (p : Int → Bool) : (allUnder ((rng 0 m).filter p) (m : Int) && isRis ((rng 0 m).filter p)) = true := by
  have h1 : allUnder ((rng 0 m).filter p) (m : Int) = true := List.all_eq_true.mpr fun x hx => by
    have := k_rng (List.mem_filter.mp hx).1
    simp; omega
  rw [h1, ris_of ((rng_pair m).sublist List.filter_sublist)]; rfl
theorem filt_len (m : Nat) (p : Int → Bool) : ((rng 0 m).filter p).length ≤ m := by
  have := List.length_filter_le p (rng 0 m)
  rwa [rng_len] at this
theorem lawM_in (ns : List Int) : 2 ≤ lawM ns ∧ lawM ns ≤ 7 := by unfold lawM; omega
theorem lawS_in (ns : List Int) : 0 ≤ lawS ns ∧ lawS ns ≤ lawM ns := by
  have := lawM_in ns
  unfold lawS
  split <;> omega
theorem law_ok (ns : List Int) : OkSeen (lawM ns) (lawS ns) (lawRs ns) ∧ (lawRs ns).length ≤ 8 := by
  have hm := lawM_in ns
  have hs := lawS_in ns
  have hl : (lawRs ns).length ≤ 8 := by unfold lawRs; rw [List.length_map, rng_len]; omega
  have e : ((lawM ns).toNat : Int) = lawM ns := Int.toNat_of_nonneg (by omega)
  refine ⟨⟨by omega, hm.2, hs.1, hs.2, by omega, fun r hr => ?_, List.all_eq_true.mpr fun r hr => ?_⟩, hl⟩
  · obtain ⟨k, _, rfl⟩ := List.mem_map.mp hr
    have := filt_len (lawM ns).toNat fun j => decide ((lawMk ns).getD (lawM ns * k + j).toNat 0 = 0)
    have : LIM = 1000000 := rfl
    unfold roundAt
    omega
  · obtain ⟨k, _, rfl⟩ := List.mem_map.mp hr
    have := filt_ok (lawM ns).toNat fun j => decide ((lawMk ns).getD (lawM ns * k + j).toNat 0 = 0)
    rw [e] at this
    exact this
theorem OkSeen.zero {m s : Int} {rs : List (List Int)} (h : OkSeen m s rs) : OkSeen m 0 rs := ⟨h.m1, h.m7, Int.le_refl 0, by have := h.m1; omega, h.few, h.lens, h.ok⟩
/-! ### comparing -/
theorem ne_same {A B : PyData} (e : A = B) (h : PyData.eqv B B = true) : (!PyData.eqv A B) = false := by rw [e, h]; rfl
theorem eqv_tupI (xs : List Int) : PyData.eqv (tupI xs) (tupI xs) = true := PySem.W.eqv_refl_alike _ (alike_tup (alike_ints xs xs))
theorem alike_map {α : Type} {f : α → PyData} (h : ∀ x, PySem.W.alike (f x) (f x) = true) : ∀ xs : List α, PySem.W.alikeAll (xs.map f) (xs.map f) = true
  | [] => alike_nil
  | x :: xs => alike_cons (h x) (alike_map h xs)
theorem eqv_lots (xs : List (List Int)) : PyData.eqv (.tuple (xs.map tupI)) (.tuple (xs.map tupI)) = true := PySem.W.eqv_refl_alike _ (alike_tup (alike_map (fun x => alike_tup (alike_ints x x)) xs))
theorem eqv_opt (d : Option Int) : PyData.eqv (optD .int d) (optD .int d) = true := PySem.W.eqv_refl_alike _ (by cases d <;> rfl)
theorem shp_opt (d : Option Int) : SeqAt.shaped (optD .int d) = true := by cases d <;> rfl
theorem shp_tupI (xs : List Int) : SeqAt.shaped (tupI xs) = true := shaped_tupm (f := PyData.int) (n := 0) (fun x => ⟨rfl, Nat.le_refl 0⟩) (by decide) xs
def sureX (m : Int) (s : Nat) (rs : List (List Int)) : PyData := if leftL m s rs = [] then .none else tupI (sureL m (leftL m s rs))
theorem shp_sure (m : Int) (s : Nat) (rs : List (List Int)) : SeqAt.shaped (sureX m s rs) = true := by unfold sureX; split; rfl; exact shp_tupI _
theorem eqv_sure (m : Int) (s : Nat) (rs : List (List Int)) : PyData.eqv (sureX m s rs) (sureX m s rs) = true := by unfold sureX; split; exact PySem.W.eqv_refl_alike _ rfl; exact eqv_tupI _
def twoX (m : Int) (s : Nat) (rs : List (List Int)) : PyData := if 1 < (leftL m s rs).length then .tuple (((leftL m s rs).take 2).map tupI) else .none
theorem shp_two (m : Int) (s : Nat) (rs : List (List Int)) : SeqAt.shaped (twoX m s rs) = true := by unfold twoX; split; exact shp_lots _; rfl
theorem eqv_two (m : Int) (s : Nat) (rs : List (List Int)) : PyData.eqv (twoX m s rs) (twoX m s rs) = true := by unfold twoX; split; exact eqv_lots _; exact PySem.W.eqv_refl_alike _ rfl
theorem part_eq (lots : List (List Int)) (p : Int) : partD lots p = tupI [((lots.filter fun lot => decide (p ∈ lot)).length : Int), (lots.length : Int)] := rfl
theorem shp_parts (lots : List (List Int)) (xs : List Int) : SeqAt.shaped (.tuple (xs.map (partD lots))) = true := shaped_tupm (n := 1) (fun p => ⟨rfl, by rw [part_eq]; show PyData.depthAll (List.map .int _) + 1 ≤ 1; rw [depth_ints]; omega⟩) (by decide) xs
theorem eqv_parts (lots : List (List Int)) (xs : List Int) : PyData.eqv (.tuple (xs.map (partD lots))) (.tuple (xs.map (partD lots))) = true := PySem.W.eqv_refl_alike _ (alike_tup (alike_map (fun x => by rw [part_eq]; exact alike_tup (alike_ints _ _)) xs))
theorem eqv_list (a b : List PyData) : PyData.eqv (.list a) (.list b) = PyData.eqv (.tuple a) (.tuple b) := by simp only [PyData.eqv]
/-! ### looking downwards -/
def stepDue (p : Int → Bool) (d : Option Int) (k : Int) : Option Int := if p k = true then some k else d
theorem stepDue_yes {p : Int → Bool} {d : Option Int} {k : Int} (h : p k = true) : stepDue p d k = some k := by unfold stepDue; rw [if_pos h]
theorem stepDue_no {p : Int → Bool} {d : Option Int} {k : Int} (h : p k = false) : stepDue p d k = d := by unfold stepDue; rw [if_neg (by rw [h]; exact Bool.false_ne_true)]
theorem due_find (p : Int → Bool) : ∀ l : List Int, l.reverse.foldl (stepDue p) none = l.find? p
  | [] => rfl
  | x :: l => by
    rw [List.reverse_cons, List.foldl_append, due_find p l, List.find?_cons]
    show stepDue p (l.find? p) x = _
    unfold stepDue
    cases h : p x <;> simp
theorem end_find (p : Int → Bool) : ∀ l : List Int, ended (l.foldlM (fun (_ : Unit) s => turn (p s) (.int s) ()) ()) .none = optD .int (l.find? p)
  | [] => rfl
  | x :: l => by
    rw [List.foldlM_cons, List.find?_cons]
    cases h : p x with
    | true =>
      rfl
    | false =>
      exact end_find p l
theorem rngD_rev (m : Int) (h : 0 ≤ m) : rngD m (m - (0 - 1)).toNat = (rng 0 (m + 1).toNat).reverse := by
  rw [show m - (0 - 1) = m + 1 by omega]
  apply List.ext_getElem
  · unfold rngD rng; simp
  · intro i h1 h2
    unfold rngD rng at *
    simp at h1 h2 ⊢
    omega
theorem least_due (m : Int) (h : 0 ≤ m) (rs : List (List Int)) : leastD m rs = optD .int ((rngD m (m - (0 - 1)).toNat).foldl (stepDue fun k => !(leftL m k.toNat rs).isEmpty) none) := by
  rw [rngD_rev m h, due_find]
  exact end_find _ _
theorem enough_due (m s : Int) (rs : List (List Int)) : enoughD m s rs = optD .int ((rngD ((rs.map tupI).length : Int) (((rs.map tupI).length : Int) - (0 - 1)).toNat).foldl (stepDue fun k => decide ((leftL m s.toNat (rs.take k.toNat)).length = 1)) none) := by
  rw [rngD_rev _ (by omega), due_find]
  exact end_find _ _
/-! ### what is refused -/
def things (m : Int) : List PyData := [.none, .list [], .tuple [.tuple [.int m]], .tuple [.tuple [.int 1, .int 0]], .tuple [.tuple [.int (0 - 1)]], .tuple ((List.replicate 41 [PyData.tuple []]).flatten)]
theorem bad_thing {m s : Int} (hm : 2 ≤ m ∧ m ≤ 7) (hs : 0 ≤ s ∧ s ≤ m) {d : PyData} (hd : d ∈ things m) : R_need_seen [.int m, .int s, d] (.exc "NoRounds") := by
  have h1 : (decide (1 ≤ m) && decide (m ≤ 12)) = true := by simp; omega
  have h2 : (decide (0 ≤ s) && decide (s ≤ m)) = true := by simp; omega
  have sm : ∀ rs : List (List Int), rs.length ≤ 40 → (∀ r ∈ rs, r.length ≤ LIM) → seenOk m rs = false → R_are_seen [.int m, .tuple (rs.map tupI)] (.val (.bool false)) := fun rs a b c => by
    have := R_are_seen.mk (m := m) a b
    rwa [c] at this
  refine .bad3 h1 h2 ?_
  unfold things at hd
  simp only [List.mem_cons, List.mem_nil_iff, or_false] at hd
  rcases hd with rfl | rfl | rfl | rfl | rfl | rfl
  · exact .no rfl rfl
  · exact .no rfl rfl
  · exact sm [[m]] (by simp) (fun r hr => by rw [List.mem_singleton.mp hr]; exact (show 1 ≤ LIM by decide)) (by simp [seenOk, allUnder])
  · exact sm [[1, 0]] (by decide) (by decide) (by simp [seenOk, isRis, rng])
  · exact sm [[0 - 1]] (by decide) (by decide) (by simp [seenOk, allUnder])
  · exact .long (by simp)
--END
end Lw

set_option Elab.async false
set_option linter.all false
set_option maxRecDepth 100000
set_option maxHeartbeats 400000
namespace Lw
open PySem PySem.Spec PyProof.Rows L2 D2
--BEGIN
/-! ### the true friends -/
def pA (k : Int) : Nat := (10 * k + 2).toNat
def readersOf (os : List Order) : List Int := (os.filter fun o => decide (o.w = 0)).map fun o => o.r
def mineOf (ns : List Int) (k : Int) : List Int := (rng 0 6).filter fun p => decide (p ∈ readersOf (pOrd ns (pA k)))
def cameOf (ns : List Int) (k : Int) : List Int := (pRun ns (pA k)).letters.map fun l => l.p
def gotOf (ns : List Int) (k : Int) : List Int := (rng 0 6).filter fun p => decide (p ∈ cameOf ns k)
theorem post_sys (ns : List Int) (a : Nat) : Sys (pNet ns a) (pSec ns a) (pOrd ns a) := ⟨(post_all ns a).net, ready_seal (post_all ns a).net (post_all ns a).rdy, (post_all ns a).ord.nd⟩
theorem post_rules (ns : List Int) (a : Nat) : ∀ h : Nat, h < (hostCount (pNet ns a)).toNat → ruleAt (pNet ns a) (h : Int) ∈ lawRules := fun h hh => by
  have hN := (post_all ns a).net
  obtain ⟨e1, e2⟩ := rules_len hN
  have hm : ruleAt (pNet ns a) (h : Int) ∈ allRules (pNet ns a) := getD_mem (by omega)
  obtain ⟨s, hs, hr⟩ := List.mem_flatMap.mp hm
  obtain ⟨k, _, rfl⟩ := List.mem_map.mp (show s ∈ (rng 0 (stagesN (lawAt ns a)).toNat).map (stageN (lawAt ns a)) from hs)
  obtain ⟨j, _, e⟩ := List.mem_map.mp hr
  rw [← e]
  refine getD_mem ?_
  show _ < 6
  omega
theorem ord_tick (ns : List Int) (a : Nat) : ∀ o ∈ pOrd ns a, 0 ≤ o.t ∧ o.t ≤ 3 := fun o ho => by
  obtain ⟨k, _, rfl⟩ := List.mem_map.mp ho
  show 0 ≤ digO _ _ _ % 4 ∧ digO _ _ _ % 4 ≤ 3
  omega
theorem reader_in (ns : List Int) (a : Nat) : ∀ o ∈ pOrd ns a, 0 ≤ o.r ∧ o.r < 6 := fun o ho => by
  have := ((post_all ns a).ord.ok o ho).way.r0
  have := ((post_all ns a).ord.ok o ho).way.rn
  have := (post_all ns a).net.n6
  omega
theorem readers_in (ns : List Int) (k : Int) {p : Int} (h : p ∈ readersOf (pOrd ns (pA k))) : 0 ≤ p ∧ p < 6 := by
  unfold readersOf at h
  obtain ⟨o, ho, rfl⟩ := List.mem_map.mp h
  exact reader_in ns _ o (List.mem_filter.mp ho).1
theorem came_in (ns : List Int) (k : Int) {p : Int} (h : p ∈ cameOf ns k) : 0 ≤ p ∧ p < 6 := by
  unfold cameOf at h
  obtain ⟨l, hl, rfl⟩ := List.mem_map.mp h
  obtain ⟨o, ho, e⟩ := (run_tinv (post_sys ns (pA k)) 24).le l hl
  rw [e]
  exact reader_in ns _ o ho
theorem mem6 {l : List Int} (h : ∀ p ∈ l, 0 ≤ p ∧ p < 6) (p : Int) : p ∈ (rng 0 6).filter (fun p => decide (p ∈ l)) ↔ p ∈ l := by
  rw [List.mem_filter, decide_eq_true_eq]
  exact ⟨fun z => z.2, fun z => ⟨mem_rng (h p z).1 (by have := (h p z).2; omega), z⟩⟩
theorem mine_mem (ns : List Int) (k p : Int) : p ∈ mineOf ns k ↔ p ∈ readersOf (pOrd ns (pA k)) := mem6 (fun p hp => readers_in ns k hp) p
theorem got_mem (ns : List Int) (k p : Int) : p ∈ gotOf ns k ↔ p ∈ cameOf ns k := mem6 (fun p hp => came_in ns k hp) p
theorem pair6 (q : Int → Bool) : ((rng 0 6).filter q).Pairwise (· < ·) := (rng_pair 6).sublist List.filter_sublist
/-- who is written to gets something -/
theorem mine_got (ns : List Int) (k : Int) {p : Int} (h : p ∈ mineOf ns k) : p ∈ gotOf ns k := by
  rw [got_mem]
  rw [mine_mem] at h
  unfold readersOf at h
  obtain ⟨o, ho, rfl⟩ := List.mem_map.mp h
  have ho := (List.mem_filter.mp ho).1
  have ht := ord_tick ns _ o ho
  obtain ⟨l, hl, e⟩ := comes (post_sys ns (pA k)) (post_rules ns (pA k)) (post_all ns (pA k)).six ho ht.1 ht.2
  exact List.mem_map.mpr ⟨l, hl, e⟩
theorem came_few (ns : List Int) (k : Int) : (cameOf ns k).length ≤ 6 := by
  unfold cameOf
  rw [List.length_map]
  exact Nat.le_trans (letters_few (post_sys ns (pA k)) 24) (post_all ns (pA k)).six
theorem readers_few (ns : List Int) (k : Int) : (readersOf (pOrd ns (pA k))).length ≤ 6 := by
  unfold readersOf
  rw [List.length_map]
  exact Nat.le_trans (List.length_filter_le _ _) (post_all ns (pA k)).six
abbrev FS := List Int × List (List Int)
def stepF (ns : List Int) (b : FS) (k : Int) : FS := if (!(mineOf ns k).isEmpty) = true then (b.1 ++ (mineOf ns k).filter fun p => !decide (p ∈ b.1), b.2 ++ [gotOf ns k]) else b
structure FOk (b : FS) (n : Nat) : Prop where
  nd : b.1.Nodup
  f6 : ∀ p ∈ b.1, 0 ≤ p ∧ p < 6
  sl : b.2.length ≤ n
  so : ∀ g ∈ b.2, (allUnder g 6 && isRis g) = true ∧ g.length ≤ 6 ∧ ∃ p ∈ b.1, p ∈ g
theorem step_fok {ns : List Int} {b : FS} {n : Nat} (o : FOk b n) (k : Int) : FOk (stepF ns b k) (n + 1) := by
  unfold stepF
  split
  · rename_i hne
    refine ⟨?_, fun p hp => ?_, by rw [List.length_append]; have := o.sl; simp; omega, fun g hg => ?_⟩
    · show (b.1 ++ _).Nodup
      rw [List.nodup_append]
      refine ⟨o.nd, ?_, fun a ha c hc e => ?_⟩
      · have h1 : (mineOf ns k).Nodup := by
          rw [List.nodup_iff_pairwise_ne]
          exact (pair6 _).imp fun h => by omega
        exact h1.sublist List.filter_sublist
      · have := (List.mem_filter.mp hc).2
        rw [← e] at this
        simp [ha] at this
    · rcases List.mem_append.mp (show p ∈ b.1 ++ _ from hp) with z | z
      · exact o.f6 p z
      · exact readers_in ns k ((mine_mem ns k p).mp (List.mem_filter.mp z).1)
    · rcases List.mem_append.mp (show g ∈ b.2 ++ _ from hg) with z | z
      · obtain ⟨a, c, p, hp, hpg⟩ := o.so g z
        exact ⟨a, c, p, List.mem_append_left _ hp, hpg⟩
      · rw [List.mem_singleton.mp z]
        refine ⟨filt_ok 6 _, filt_len 6 _, ?_⟩
        obtain ⟨p, hp⟩ : ∃ p, p ∈ mineOf ns k := by
          cases e : mineOf ns k with
          | nil => rw [e] at hne; cases hne
          | cons p r => exact ⟨p, by simp⟩
        by_cases c : p ∈ b.1
        · exact ⟨p, List.mem_append_left _ c, mine_got ns k hp⟩
        · exact ⟨p, List.mem_append_right _ (List.mem_filter.mpr ⟨hp, by simp [c]⟩), mine_got ns k hp⟩
  · exact ⟨o.nd, o.f6, by have := o.sl; omega, o.so⟩
theorem fold_fok {ns : List Int} : ∀ (l : List Int) {b : FS} {n : Nat}, FOk b n → FOk (l.foldl (stepF ns) b) (n + l.length)
  | [], b, n, o => o
  | k :: l, b, n, o => by
    rw [List.foldl_cons, List.length_cons]
    have := fold_fok (ns := ns) l (step_fok (ns := ns) o k)
    rw [show n + (l.length + 1) = n + 1 + l.length by omega]
    exact this
theorem fok0 : FOk ([], []) 0 := ⟨List.nodup_nil, fun p hp => by simp at hp, Nat.le_refl 0, fun g hg => by simp at hg⟩
/-- rising lots are among all lots -/
theorem lots_has {m : Int} : ∀ (n : Nat) (x : List Int), x.length = n → x.Pairwise (· < ·) → (∀ p ∈ x, 0 ≤ p ∧ p < m) → x ∈ lotsOf m n
  | 0, x, hl, _, _ => by
    have : x = [] := List.length_eq_zero_iff.mp hl
    subst this
    exact List.mem_singleton.mpr rfl
  | n + 1, x, hl, hp, hm => by
    have hne : x ≠ [] := fun e => by rw [e] at hl; simp at hl
    have ex : x = x.dropLast ++ [x.getLast hne] := (List.dropLast_concat_getLast hne).symm
    have hp2 := hp
    rw [ex] at hp2
    obtain ⟨q1, q2, q3⟩ := List.pairwise_append.mp hp2
    have ih := lots_has (m := m) n x.dropLast (by rw [List.length_dropLast, hl]; rfl) q1 fun p h => hm p (List.dropLast_subset _ h)
    have hlast := hm _ (List.getLast_mem hne)
    show x ∈ nextLots m (lotsOf m n)
    unfold nextLots
    refine List.mem_flatMap.mpr ⟨x.dropLast, ih, List.mem_map.mpr ⟨x.getLast hne, ?_, ex.symm⟩⟩
    have hlo : loOf x.dropLast ≤ x.getLast hne := by
      unfold loOf
      cases e : x.dropLast.getLast? with
      | none => exact hlast.1
      | some y =>
        have := q3 y (List.mem_of_getLast? e) _ (List.mem_singleton.mpr rfl)
        show y + 1 ≤ _
        omega
    exact mem_rng hlo (by have := hlast.2; omega)
theorem dle_int (a b : Int) : dle (.int a) (.int b) = decide (a ≤ b) := by
  have := congrFun (congrFun (PySem.W.dataLe_int (β := Int) fun x => x) a) b
  rw [← this]; rfl
theorem sorted_ints {xs : List Int} (h : xs.Nodup) : (sortBy PyData.int xs).Pairwise (· < ·) := by
  have h1 := List.pairwise_mergeSort (le := fun a b : Int => dle (.int a) (.int b)) (fun a b c h1 h2 => by
    rw [dle_int] at *
    simp at *; omega) (fun a b => by rw [dle_int, dle_int]; simp; omega) xs
  have h2 : (sortBy PyData.int xs).Nodup := (sortBy_perm PyData.int xs).nodup_iff.mpr h
  rw [List.nodup_iff_pairwise_ne] at h2
  have h3 := h1.and h2
  refine h3.imp fun {a b} z => ?_
  have z1 := z.1
  rw [dle_int] at z1
  have := of_decide_eq_true z1
  have := z.2
  omega
theorem fr_len {b : FS} {n : Nat} (o : FOk b n) : b.1.length ≤ 6 := by
  have := nodup_len b.1 (rng 0 6) o.nd fun p hp => mem_rng (o.f6 p hp).1 (by have := (o.f6 p hp).2; omega)
  rwa [rng_len] at this
theorem fr_seen {b : FS} {n : Nat} (o : FOk b n) (hn : n ≤ 3) : OkSeen 6 (b.1.length : Int) b.2 := by
  have := fr_len o
  have hL : LIM = 1000000 := rfl
  refine ⟨by decide, by decide, by omega, by omega, by have := o.sl; omega, fun g hg => by have := (o.so g hg).2.1; omega, List.all_eq_true.mpr fun g hg => (o.so g hg).1⟩
/-- the true friends are left -/
theorem fr_left {b : FS} {n : Nat} (o : FOk b n) : sortBy PyData.int b.1 ∈ leftL 6 b.1.length b.2 := by
  unfold leftL
  refine List.mem_filter.mpr ⟨lots_has _ _ (sortBy_len _ _) (sorted_ints o.nd) fun p hp => o.f6 p ((sortBy_perm _ _).mem_iff.mp hp), ?_⟩
  refine List.all_eq_true.mpr fun g hg => ?_
  obtain ⟨p, hp, hpg⟩ := (o.so g hg).2.2
  exact List.any_eq_true.mpr ⟨p, (sortBy_perm _ _).mem_iff.mpr hp, decide_eq_true hpg⟩
theorem fr_test {b : FS} {n : Nat} (o : FOk b n) : (!(b.1.map PyData.int).isEmpty && !(((leftL 6 b.1.length b.2).map tupI).any fun z => PyData.eqv z (tupI (sortBy PyData.int b.1)))) = false := by
  have h : (((leftL 6 b.1.length b.2).map tupI).any fun z => PyData.eqv z (tupI (sortBy PyData.int b.1))) = true := List.any_eq_true.mpr ⟨_, List.mem_map.mpr ⟨_, fr_left o, rfl⟩, eqv_tupI _⟩
  rw [h]
  simp
--END
end Lw

set_option Elab.async false
set_option linter.all false
set_option maxRecDepth 100000
set_option maxHeartbeats 400000
namespace Lw
open PySem PySem.Spec PyProof.Rows L2 D2
--BEGIN
theorem flag_same (l : List (List Int)) : decide (decide (l.length = 1) = decide (((l.map tupI).length : Int) = 1)) = true := by
  rw [List.length_map]
  refine decide_eq_true ?_
  by_cases h : l.length = 1
  · rw [decide_eq_true h, decide_eq_true (by omega)]
  · rw [decide_eq_false h, decide_eq_false (by omega)]
theorem shp_lotsL (f : List (List Int)) : SeqAt.shaped (.list (f.map tupI)) = true := by
  have h := shp_lots f
  unfold SeqAt.shaped at *
  exact h
theorem rngD_at {m : Int} {n : Nat} {pre post : List Int} {x : Int} (e : rngD m n = pre ++ x :: post) : pre.length < n ∧ x = m - (pre.length : Int) := by
  have e1 := congrArg List.length e
  have hl : (rngD m n).length = n := by unfold rngD; simp
  rw [hl, List.length_append, List.length_cons] at e1
  have h : pre.length < n := by omega
  refine ⟨h, ?_⟩
  have e2 : (rngD m n)[pre.length]? = some x := by rw [e]; simp
  unfold rngD at e2
  rw [List.getElem?_map, List.getElem?_range h] at e2
  exact (Option.some.inj e2).symm
theorem mine_pair (ns : List Int) (k : Int) : (mineOf ns k).Pairwise (· < ·) := pair6 _
theorem got_pair (ns : List Int) (k : Int) : (gotOf ns k).Pairwise (· < ·) := pair6 _
theorem mine_len (ns : List Int) (k : Int) : (mineOf ns k).length ≤ 6 := filt_len 6 _
theorem stepF_yes {ns : List Int} {b : FS} {k : Int} (h : (!(mineOf ns k).isEmpty) = true) : stepF ns b k = (b.1 ++ (mineOf ns k).filter fun p => !decide (p ∈ b.1), b.2 ++ [gotOf ns k]) := by unfold stepF; rw [if_pos h]
theorem stepF_no {ns : List Int} {b : FS} {k : Int} (h : (!(mineOf ns k).isEmpty) = false) : stepF ns b k = b := by unfold stepF; rw [if_neg (by rw [h]; exact Bool.false_ne_true)]
theorem emp_map {α : Type} (f : α → PyData) (l : List α) : (l.map f).isEmpty = l.isEmpty := by cases l <;> rfl
theorem post_at (ns : List Int) {x : Int} (h : 0 ≤ x) : R__law_post [scr ns, .int (10 * x + 2), .int 6] (.val (pWorld ns (pA x))) := by
  have h1 : ((pA x : Nat) : Int) = 10 * x + 2 := by unfold pA; omega
  rw [← h1]
  exact .mk
theorem al_int (xs : List Int) : PySem.W.AllAlike (xs.map PyData.int) := fun d hd e he => by
  obtain ⟨x, _, rfl⟩ := List.mem_map.mp hd
  obtain ⟨y, _, rfl⟩ := List.mem_map.mp he
  rfl
theorem so_int (xs : List Int) : PySem.W.Sortable (xs.map PyData.int) := .inr fun d hd => by
  obtain ⟨x, _, rfl⟩ := List.mem_map.mp hd
  exact ⟨fun z => (by cases z), fun ys z => (by cases z)⟩
theorem dp_int (xs : List Int) : ∀ d ∈ xs.map PyData.int, d.depth ≤ 60 := fun d hd => by
  obtain ⟨x, _, rfl⟩ := List.mem_map.mp hd
  exact Nat.zero_le _
theorem fr_lots {b : FS} {n : Nat} (o : FOk b n) (hn : n ≤ 3) : R_friend_lots [.int 6, .int ((b.1.map PyData.int).length : Int), .tuple (b.2.map tupI)] (.val (.tuple ((leftL 6 b.1.length b.2).map tupI))) := by
  rw [List.length_map]
  exact R_friend_lots.mk (fr_seen o hn)
theorem tup_lay (xs : List Int) : (tupI xs).canLay0 = true := lay_ints xs
theorem tup_dep (xs : List Int) : (tupI xs).depth ≤ 60 := by show PyData.depthAll (xs.map .int) + 1 ≤ 60; rw [depth_ints]; decide
theorem findD_ne {k k' : Key} {v : PyData} {r : List (Key × PyData)} (h : k ≠ k') : findD ((k, v) :: r) k' = findD r k' := by
  unfold findD
  rw [List.find?_cons, decide_eq_false h]
theorem findD_eq {k : Key} {v : PyData} {r : List (Key × PyData)} : findD ((k, v) :: r) k = some v := by
  unfold findD
  rw [List.find?_cons, decide_eq_true rfl]; rfl
abbrev pKvs (ns : List Int) (a : Nat) : List (Key × PyData) := [(.inr "net", netD (pNet ns a)), (.inr "orders", ordersD (pOrd ns a)), (.inr "secrets", secD (pSec ns a)), (.inr "log", .tuple ((pRun ns a).lines.map linesD)), (.inr "told", toldD (pRun ns a)), (.inr "ways", .tuple ((pOrd ns a).map wayD))]
theorem world_orders (ns : List Int) (a : Nat) : findD (pKvs ns a) (.inr "orders") = some (ordersD (pOrd ns a)) := (findD_ne (by decide)).trans findD_eq
theorem world_told (ns : List Int) (a : Nat) : findD (pKvs ns a) (.inr "told") = some (toldD (pRun ns a)) := (findD_ne (by decide)).trans ((findD_ne (by decide)).trans ((findD_ne (by decide)).trans ((findD_ne (by decide)).trans findD_eq)))
/-- the folded friends -/
def lawFr (ns : List Int) : FS := (rng 0 (1 + (lawDg ns).getD 3 0 % 3).toNat).foldl (stepF ns) ([], [])
theorem fr_fok (ns : List Int) : FOk (lawFr ns) (0 + (rng 0 (1 + (lawDg ns).getD 3 0 % 3).toNat).length) ∧ 0 + (rng 0 (1 + (lawDg ns).getD 3 0 % 3).toNat).length ≤ 3 := ⟨fold_fok _ fok0, by rw [rng_len]; omega⟩
theorem fr_pre {ns : List Int} {pre post : List Int} {x : Int} (hx : rng 0 (1 + (lawDg ns).getD 3 0 % 3).toNat = pre ++ x :: post) : (pre.foldl (stepF ns) ([], [])).1.length ≤ 6 ∧ (pre.foldl (stepF ns) ([], [])).2.length ≤ 3 ∧ 0 ≤ x := by
  have a := fold_fok (ns := ns) pre fok0
  have c := rng_at hx
  have := a.sl
  exact ⟨fr_len a, by omega, by omega⟩
--END
end Lw

set_option Elab.async false
set_option linter.all false
set_option maxRecDepth 100000
set_option maxHeartbeats 4000000
namespace Lw
open PySem PySem.Spec PyProof.Rows L2 D2
local macro_rules | `(tactic| walk_at "le") => `(tactic| ((try simp only [List.map_append, List.map_cons, List.map_nil]); repeat (first | exact trivial | exact Le.refl _ | refine And.intro (Or.inr rfl) ?_ | refine And.intro (Or.inl rfl) ?_)))
local macro_rules | `(tactic| walk_at "side") => `(tactic| first | rfl | assumption | omega | decide | (simp; done) | (simp; omega))
section
variable {P : Program} {w : World} {K : PySem.W.Frag} {mg : Str → Option Value} {base : Heap}
inductive R_law : List PyData → Res → Prop
  | mk {ns : List Int} : R_law [scr ns] (.val (.bool true))
theorem law_sp {K : PySem.W.Frag} {H : Hp} {a : Addr} {ns : List Int} (hl : ns.length ≤ 63) (hS : SqL K H a (ns.map V.int)) : spD K R_law [.ref a] H (fun v _ => v = .bl true) fun _ _ _ => False := law_sp_of .mk hS
theorem d_law (T : Txt K mg) (h_Told_came : MethOk P w K mg base T.k_Told.C "came" ["self"] 1 (spD K R_Told_came)) (h__law_at : DefOk P w K mg base "_law_at" ["script", "k"] 1 R__law_at) (h__law_flag : DefOk P w K mg base "_law_flag" ["found", "due"] 1 R__law_flag) (h__law_left : DefOk P w K mg base "_law_left" ["many", "size", "rounds"] 2 R__law_left) (h__law_post : DefOk P w K mg base "_law_post" ["script", "at", "most"] 11 R__law_post) (h__law_refused : DefOk P w K mg base "_law_refused" ["many", "size", "rounds"] 8 R__law_refused) (h__law_row : DefOk P w K mg base "_law_row" ["cell", "many", "top"] 2 R__law_row) (h_cleared : DefOk P w K mg base "cleared" ["many", "size", "rounds"] 8 R_cleared) (h_friend_lots : DefOk P w K mg base "friend_lots" ["many", "size", "rounds"] 7 R_friend_lots) (h_is_known : DefOk P w K mg base "is_known" ["many", "size", "rounds"] 8 R_is_known) (h_least_size : DefOk P w K mg base "least_size" ["many", "rounds"] 7 R_least_size) (h_parts_of : DefOk P w K mg base "parts_of" ["many", "size", "rounds"] 8 R_parts_of) (h_rounds_enough : DefOk P w K mg base "rounds_enough" ["many", "size", "rounds"] 7 R_rounds_enough) (h_spare_rounds : DefOk P w K mg base "spare_rounds" ["many", "size", "rounds"] 8 R_spare_rounds) (h_sure_friends : DefOk P w K mg base "sure_friends" ["many", "size", "rounds"] 8 R_sure_friends) (h_two_left : DefOk P w K mg base "two_left" ["many", "size", "rounds"] 8 R_two_left) {fl : Addr} {fdl : FuncData} (F : Fun K "law" "law" st_law fl fdl) : FnOk P w K mg base (L2.CX P w) 12 fl fdl ["script"] (spD K R_law) :=
  okF F sc_law (by decide) (by intro ds r h; cases h <;> rfl) fun f cdv Ar outer s H E hr => ⟨_, (pss_cons (ps_set (i := 1) sc_law.nd rfl (.inl rfl) (pe_callD h__law_row (hr.mono (by decide)) (by rfl) passL (pa_cons (pe_callD h__law_at (hr.mono (by decide)) (by rfl) passL (pa_cons (pv 0) (pa_cons pe_int pa_nil))) (pa_cons pe_int (pa_cons pe_int pa_nil)))))
  (pss_cons (ps_set (i := 2) sc_law.nd rfl (.inr rfl) (pe_op op_add pe_int (pe_op op_mod (pe_ix (k_ixL (K := K)) (pv 1) pe_int (fun _ _ => rfl)) pe_int)))
  (pss_cons (ps_set (i := 3) sc_law.nd rfl (.inr rfl) (pe_callB (call_min2 rfl) (by rfl) T.b_min (by decide +kernel) (pa_cons (pv 2) (pa_cons (pe_op op_mod (pe_ix (k_ixL (K := K)) (pv 1) pe_int (fun _ _ => rfl)) pe_int) pa_nil))))
  (pss_cons (ps_set (i := 4) sc_law.nd rfl (.inr rfl) (pe_callD h__law_row (hr.mono (by decide)) (by rfl) passL (pa_cons (pe_callD h__law_at (hr.mono (by decide)) (by rfl) passL (pa_cons (pv 0) (pa_cons pe_int pa_nil))) (pa_cons (pe_op op_mul pe_int (pv 2)) (pa_cons pe_int pa_nil)))))
  (pss_cons (ps_set (i := 5) sc_law.nd rfl (.inr rfl) (pe_lst pa_nil))
  (pss_cons (ps_for PW0 rfl (pi_range1 (by rfl) T.b_range (pa_cons (pe_op op_mod (pe_ix (k_ixL (K := K)) (pv 1) pe_int (fun _ _ => rfl)) pe_int) pa_nil)) (pg_name (i := 6) sc_law.nd rfl (.inr rfl)) (pss_one (ps_expr (pe_bm PySem.F.plainAttrs_list PySem.F.slot_list_append PySem.F.type_list_append mt_append (pv 5) (pa_cons (pe_callTy (k_tupOf (K := K)) (by rfl) T.b_tuple (by decide +kernel) (pa_cons (pe_lc (own := [("j", 16)]) (g := (gName 16)) rfl sc_law.nd (pi_range1 (by rfl) T.b_range (pa_cons (pv 2) pa_nil)) (blkOk_by (N := N_law) (sc := defScope st_law) (by decide +kernel)) (fun _ _ _ _ _ => (pg_name (i := 16) sc_law.nd rfl (.inl rfl))) (fun _ _ _ _ _ => (pts_one (pt_cmpR op_eq (pe_ix (k_ixL (K := K)) (pv 4) (pe_op op_add (pe_op op_mul (pv 2) (pv 6)) (pv 16)) (fun _ _ => rfl)) pe_int (nomark _)))) (fun _ _ _ _ _ => (pv 16))) pa_nil)) pa_nil)))))
  (pss_cons (ps_set (i := 5) sc_law.nd rfl (.inr rfl) (pe_callTy (k_tupOf (K := K)) (by rfl) T.b_tuple (by decide +kernel) (pa_cons (pv 5) pa_nil)))
  (pss_cons (ps_set (i := 7) sc_law.nd rfl (.inr rfl) (pe_callD h__law_left (hr.mono (by decide)) (by rfl) passL (pa_cons (pv 2) (pa_cons (pv 3) (pa_cons (pv 5) pa_nil)))))
  (pss_cons (ps_if (PW.pt (pw_or (pt_cmpR (k_neD hr.units (K := K)) (pe_callD h_friend_lots (hr.mono (by decide)) (by rfl) passC (pa_cons (pv 2) (pa_cons (pv 3) (pa_cons (pv 5) pa_nil)))) (pe_callTy (k_tupOf (K := K)) (by rfl) T.b_tuple (by decide +kernel) (pa_cons (pv 7) pa_nil)) (nomark _)) (pw_or1 (pt_not (pt_val (pe_callD h__law_flag (hr.mono (by decide)) (by rfl) passL (pa_cons (pe_callD h_is_known (hr.mono (by decide)) (by rfl) passC (pa_cons (pv 2) (pa_cons (pv 3) (pa_cons (pv 5) pa_nil)))) (pa_cons (pe_cmpR op_eq (pe_callB (k_len (K := K)) (by rfl) T.b_len PySem.boot_len (pa_cons (pv 7) pa_nil)) pe_int (nomark _)) pa_nil)))))))) (pss_one (ps_ret pe_bl)) pss_nil)
  (pss_cons (ps_set (i := 8) sc_law.nd rfl (.inl rfl) pe_non)
  (pss_cons (ps_if (k_truth (K := K) (pv 7)) (pss_one (ps_set (i := 8) sc_law.nd rfl (.inl rfl) (pe_callTy (k_tupOf (K := K)) (by rfl) T.b_tuple (by decide +kernel) (pa_cons (pe_lc (own := [("j", 16)]) (g := (gName 16)) rfl sc_law.nd (pi_range1 (by rfl) T.b_range (pa_cons (pv 2) pa_nil)) (blkOk_by (N := N_law) (sc := defScope st_law) (by decide +kernel)) (fun _ _ _ _ _ => (pg_name (i := 16) sc_law.nd rfl (.inr rfl))) (fun _ _ _ _ _ => (pts_one (pt_val (pe_callB (k_all (K := K)) (by rfl) T.b_all (by decide +kernel) (pa_cons (pe_lc (own := [("lot", 19)]) (g := (gName 19)) (tt := tYes) rfl sc_law.nd (k_list (K := K) (pv 7)) (blkOk_by rfl) (fun _ _ _ _ _ => (pg_name (i := 19) sc_law.nd rfl (.inl rfl))) (fun _ _ _ _ _ => pts_nil) (fun _ _ _ _ _ => (pe_cmpR (k_in (K := K)) (pv 16) (pv 19) (by with_unfolding_all rfl)))) pa_nil))))) (fun _ _ _ _ _ => (pv 16))) pa_nil)))) pss_nil)
  (pss_cons (ps_if (pt_cmpR (k_neD hr.units (K := K)) (pe_callD h_sure_friends (hr.mono (by decide)) (by rfl) passC (pa_cons (pv 2) (pa_cons (pv 3) (pa_cons (pv 5) pa_nil)))) (pv 8) (nomark _)) (pss_one (ps_ret pe_bl)) pss_nil)
  (pss_cons (ps_if (pt_cmpR (k_neD hr.units (K := K)) (pe_callD h_cleared (hr.mono (by decide)) (by rfl) passC (pa_cons (pv 2) (pa_cons (pv 3) (pa_cons (pv 5) pa_nil)))) (pe_callTy (k_tupOf (K := K)) (by rfl) T.b_tuple (by decide +kernel) (pa_cons (pe_lc (own := [("j", 16)]) (g := (gName 16)) rfl sc_law.nd (pi_range1 (by rfl) T.b_range (pa_cons (pv 2) pa_nil)) (blkOk_by (N := N_law) (sc := defScope st_law) (by decide +kernel)) (fun _ _ _ _ _ => (pg_name (i := 16) sc_law.nd rfl (.inr rfl))) (fun _ _ _ _ _ => (pts_one (pt_not (pt_val (pe_callB (k_any (K := K)) (by rfl) T.b_any (by decide +kernel) (pa_cons (pe_lc (own := [("lot", 19)]) (g := (gName 19)) (tt := tYes) rfl sc_law.nd (k_list (K := K) (pv 7)) (blkOk_by rfl) (fun _ _ _ _ _ => (pg_name (i := 19) sc_law.nd rfl (.inl rfl))) (fun _ _ _ _ _ => pts_nil) (fun _ _ _ _ _ => (pe_cmpR (k_in (K := K)) (pv 16) (pv 19) (by with_unfolding_all rfl)))) pa_nil)))))) (fun _ _ _ _ _ => (pv 16))) pa_nil)) (nomark _)) (pss_one (ps_ret pe_bl)) pss_nil)
  (pss_cons (ps_set (i := 9) sc_law.nd rfl (.inl rfl) pe_non)
  (pss_cons (ps_for PW0 rfl (pi_range3 (by rfl) T.b_range (pa_cons (pv 2) (pa_cons (pe_op op_sub pe_int pe_int) (pa_cons (pe_un un_neg pe_int) pa_nil)))) (pg_name (i := 6) sc_law.nd rfl (.inr rfl)) (pss_one (ps_if (k_truth (K := K) (pe_callD h__law_left (hr.mono (by decide)) (by rfl) passL (pa_cons (pv 2) (pa_cons (pv 6) (pa_cons (pv 5) pa_nil))))) (pss_one (ps_set (i := 9) sc_law.nd rfl (.inl rfl) (pv 6))) pss_nil)))
  (pss_cons (ps_if (pt_cmpR (k_neD hr.units (K := K)) (pe_callD h_least_size (hr.mono (by decide)) (by rfl) passC (pa_cons (pv 2) (pa_cons (pv 5) pa_nil))) (pv 9) (nomark _)) (pss_one (ps_ret pe_bl)) pss_nil)
  (pss_cons (ps_set (i := 9) sc_law.nd rfl (.inl rfl) pe_non)
  (pss_cons (ps_for PW0 rfl (pi_range3 (by rfl) T.b_range (pa_cons (pe_callB (k_len (K := K)) (by rfl) T.b_len PySem.boot_len (pa_cons (pv 5) pa_nil)) (pa_cons (pe_op op_sub pe_int pe_int) (pa_cons (pe_un un_neg pe_int) pa_nil)))) (pg_name (i := 6) sc_law.nd rfl (.inr rfl)) (pss_one (ps_if (pt_cmpR op_eq (pe_callB (k_len (K := K)) (by rfl) T.b_len PySem.boot_len (pa_cons (pe_callD h__law_left (hr.mono (by decide)) (by rfl) passL (pa_cons (pv 2) (pa_cons (pv 3) (pa_cons (pe_slice (k_slT (K := K)) (pv 5) po_none (po_some (pv 6))) pa_nil)))) pa_nil)) pe_int (nomark _)) (pss_one (ps_set (i := 9) sc_law.nd rfl (.inl rfl) (pv 6))) pss_nil)))
  (pss_cons (ps_if (pt_cmpR (k_neD hr.units (K := K)) (pe_callD h_rounds_enough (hr.mono (by decide)) (by rfl) passC (pa_cons (pv 2) (pa_cons (pv 3) (pa_cons (pv 5) pa_nil)))) (pv 9) (nomark _)) (pss_one (ps_ret pe_bl)) pss_nil)
  (pss_cons (ps_set (i := 9) sc_law.nd rfl (.inl rfl) pe_non)
  (pss_cons (ps_if (pt_cmpR op_gt (pe_callB (k_len (K := K)) (by rfl) T.b_len PySem.boot_len (pa_cons (pv 7) pa_nil)) pe_int (nomark _)) (pss_one (ps_set (i := 9) sc_law.nd rfl (.inl rfl) (pe_callTy (k_tupOf (K := K)) (by rfl) T.b_tuple (by decide +kernel) (pa_cons (pe_slice (k_slL (K := K)) (pv 7) po_none (po_some pe_int)) pa_nil)))) pss_nil)
  (pss_cons (ps_if (pt_cmpR (k_neD hr.units (K := K)) (pe_callD h_two_left (hr.mono (by decide)) (by rfl) passC (pa_cons (pv 2) (pa_cons (pv 3) (pa_cons (pv 5) pa_nil)))) (pv 9) (nomark _)) (pss_one (ps_ret pe_bl)) pss_nil)
  (pss_cons (ps_setLc (i := 9) (own := [("k", 6)]) (g := (gName 6)) rfl sc_law.nd rfl rfl (sw_true rfl rfl rfl (by decide +kernel)) (pi_range1 (by rfl) T.b_range (pa_cons (pe_callB (k_len (K := K)) (by rfl) T.b_len PySem.boot_len (pa_cons (pv 5) pa_nil)) pa_nil)) (blkOk_by (N := N_law) (sc := defScope st_law) (by decide +kernel)) (fun _ _ _ _ _ => (pg_name (i := 6) sc_law.nd rfl (.inl rfl))) (fun _ _ _ _ _ => (pts_one (pt_cmpR (k_eqD hr.units (K := K)) (pe_callD h__law_left (hr.mono (by decide)) (by rfl) passL (pa_cons (pv 2) (pa_cons (pv 3) (pa_cons (pe_op (k_catT (K := K)) (pe_slice (k_slT (K := K)) (pv 5) po_none (po_some (pv 6))) (pe_slice (k_slT (K := K)) (pv 5) (po_some (pe_op op_add (pv 6) pe_int)) po_none)) pa_nil)))) (pv 7) (nomark _)))) (fun _ _ _ _ _ => (pv 6)))
  (pss_cons (ps_if (pt_cmpR (k_neD hr.units (K := K)) (pe_callD h_spare_rounds (hr.mono (by decide)) (by rfl) passC (pa_cons (pv 2) (pa_cons (pv 3) (pa_cons (pv 5) pa_nil)))) (pe_callTy (k_tupOf (K := K)) (by rfl) T.b_tuple (by decide +kernel) (pa_cons (pv 9) pa_nil)) (nomark _)) (pss_one (ps_ret pe_bl)) pss_nil)
  (pss_cons (ps_if (pt_cmpR (k_neD hr.units (K := K)) (pe_callD h_parts_of (hr.mono (by decide)) (by rfl) passC (pa_cons (pv 2) (pa_cons (pv 3) (pa_cons (pv 5) pa_nil)))) (pe_callTy (k_tupOf (K := K)) (by rfl) T.b_tuple (by decide +kernel) (pa_cons (pe_lc (own := [("j", 16)]) (g := (gName 16)) (tt := tYes) rfl sc_law.nd (pi_range1 (by rfl) T.b_range (pa_cons (pv 2) pa_nil)) (blkOk_by (N := N_law) (sc := defScope st_law) (by decide +kernel)) (fun _ _ _ _ _ => (pg_name (i := 16) sc_law.nd rfl (.inr rfl))) (fun _ _ _ _ _ => pts_nil) (fun _ _ _ _ _ => (pe_tup (pa_cons (pe_callB (k_len (K := K)) (by rfl) T.b_len PySem.boot_len (pa_cons (pe_lc (own := [("lot", 19)]) (g := (gName 19)) rfl sc_law.nd (k_list (K := K) (pv 7)) (blkOk_by rfl) (fun _ _ _ _ _ => (pg_name (i := 19) sc_law.nd rfl (.inl rfl))) (fun _ _ _ _ _ => (pts_one (pt_cmpR (k_in (K := K)) (pv 16) (pv 19) (by with_unfolding_all rfl)))) (fun _ _ _ _ _ => pe_int)) pa_nil)) (pa_cons (pe_callB (k_len (K := K)) (by rfl) T.b_len PySem.boot_len (pa_cons (pv 7) pa_nil)) pa_nil))))) pa_nil)) (nomark _)) (pss_one (ps_ret pe_bl)) pss_nil)
  (pss_cons (ps_set (i := 10) sc_law.nd rfl (.inr rfl) (pe_lst pa_nil))
  (pss_cons (ps_set (i := 11) sc_law.nd rfl (.inl rfl) (pe_lst pa_nil))
  (pss_cons (ps_for PW0 rfl (pi_range1 (by rfl) T.b_range (pa_cons (pe_op op_add pe_int (pe_op op_mod (pe_ix (k_ixL (K := K)) (pv 1) pe_int (fun _ _ => rfl)) pe_int)) pa_nil)) (pg_name (i := 6) sc_law.nd rfl (.inr rfl)) (pss_cons (ps_set (i := 12) sc_law.nd rfl (.inl rfl) (pe_callD h__law_post (hr.mono (by decide)) (by rfl) passC (pa_cons (pv 0) (pa_cons (pe_op op_add (pe_op op_mul pe_int (pv 6)) pe_int) (pa_cons pe_int pa_nil)))))
  (pss_cons (ps_set (i := 13) sc_law.nd rfl (.inl rfl) (pe_callB (k_sortedSet (w := w)) (by rfl) T.b_sorted (by decide +kernel) (pa_cons (pe_callTy (k_setI (K := K) (w := w)) (by rfl) T.b_set (by decide +kernel) (pa_cons (pe_lc (own := [("order", 17)]) (g := (gName 17)) rfl sc_law.nd (k_tup (K := K) (pe_dget (hu_of hr) (pv 12) pe_str (fun _ _ => rfl))) (blkOk_by (N := N_law) (sc := defScope st_law) (by decide +kernel)) (fun _ _ _ _ _ => (pg_name (i := 17) sc_law.nd rfl (.inl rfl))) (fun _ _ _ _ _ => (pts_one (pt_cmpR op_eq (pe_ix (k_ixT (K := K)) (pv 17) pe_int (fun _ _ => rfl)) pe_int (nomark _)))) (fun _ _ _ _ _ => (pe_ix (k_ixT (K := K)) (pv 17) pe_int (fun _ _ => rfl)))) pa_nil)) pa_nil)))
  (pss_cons (ps_set (i := 14) sc_law.nd rfl (.inl rfl) (pe_callB (k_sortedSet (w := w)) (by rfl) T.b_sorted (by decide +kernel) (pa_cons (pe_callTy (k_setI (K := K) (w := w)) (by rfl) T.b_set (by decide +kernel) (pa_cons (pe_lc (own := [("one", 18)]) (g := (gName 18)) (tt := tYes) rfl sc_law.nd (k_tup (K := K) (pe_methD0 (pe_dget (hu_of hr) (pv 12) pe_str (fun _ _ => rfl)) T.k_Told.f.cl h_Told_came (hr.mono (by decide)) passL)) (blkOk_by (N := N_law) (sc := defScope st_law) (by decide +kernel)) (fun _ _ _ _ _ => (pg_name (i := 18) sc_law.nd rfl (.inl rfl))) (fun _ _ _ _ _ => pts_nil) (fun _ _ _ _ _ => (pe_ix (k_ixT (K := K)) (pv 18) pe_int (fun _ _ => rfl)))) pa_nil)) pa_nil)))
  (pss_one (ps_if (k_truth (K := K) (pv 13)) (pss_cons (ps_set (i := 10) sc_law.nd rfl (.inr rfl) (pe_op op_cat (pv 10) (pe_lc (own := [("one", 18)]) (g := (gName 18)) rfl sc_law.nd (k_list (K := K) (pv 13)) (blkOk_by (N := N_law) (sc := defScope st_law) (by decide +kernel)) (fun _ _ _ _ _ => (pg_name (i := 18) sc_law.nd rfl (.inl rfl))) (fun _ _ _ _ _ => (pts_one (pt_cmpR (k_notIn (K := K)) (pv 18) (pv 10) (by with_unfolding_all rfl)))) (fun _ _ _ _ _ => (pv 18)))))
  (pss_one (ps_expr (pe_bm PySem.F.plainAttrs_list PySem.F.slot_list_append PySem.F.type_list_append mt_append (pv 11) (pa_cons (pe_callTy (k_tupOf (K := K)) (by rfl) T.b_tuple (by decide +kernel) (pa_cons (pv 14) pa_nil)) pa_nil))))) pss_nil))))))
  (pss_cons (ps_if (PW.pt (pw_and (k_truth (K := K) (pv 10)) (pw_and1 (pt_cmpR (k_notInA hr.units (K := K)) (pe_callTy (k_tupOf (K := K)) (by rfl) T.b_tuple (by decide +kernel) (pa_cons (pe_callB (k_sortD (K := K) hr.units) (by rfl) T.b_sorted (by decide +kernel) (pa_cons (pv 10) pa_nil)) pa_nil)) (pe_callD h_friend_lots (hr.mono (by decide)) (by rfl) passC (pa_cons pe_int (pa_cons (pe_callB (k_len (K := K)) (by rfl) T.b_len PySem.boot_len (pa_cons (pv 10) pa_nil)) (pa_cons (pe_callTy (k_tupOf (K := K)) (by rfl) T.b_tuple (by decide +kernel) (pa_cons (pv 11) pa_nil)) pa_nil)))) (by with_unfolding_all rfl))))) (pss_one (ps_ret pe_bl)) pss_nil)
  (pss_cons (ps_for PW0 rfl (k_list (K := K) (pe_lst (pa_cons pe_non (pa_cons (pe_lst pa_nil) (pa_cons (pe_tup (pa_cons (pe_tup (pa_cons (pv 2) pa_nil)) pa_nil)) (pa_cons (pe_tup (pa_cons (pe_tup (pa_cons pe_int (pa_cons pe_int pa_nil))) pa_nil)) (pa_cons (pe_tup (pa_cons (pe_tup (pa_cons (pe_op op_sub pe_int pe_int) pa_nil)) pa_nil)) (pa_cons (pe_op (k_repT (K := K)) (pe_tup (pa_cons (pe_tup pa_nil) pa_nil)) pe_int) pa_nil)))))))) (pg_name (i := 15) sc_law.nd rfl (.inl rfl)) (pss_one (ps_if (pt_not (pt_val (pe_callD h__law_refused (hr.mono (by decide)) (by rfl) passL (pa_cons (pv 2) (pa_cons (pv 3) (pa_cons (pv 15) pa_nil)))))) (pss_one (ps_ret pe_bl)) pss_nil)))
  (pss_one (ps_ret (pe_and (pe_callD h__law_refused (hr.mono (by decide)) (by rfl) passL (pa_cons pe_int (pa_cons pe_int (pa_cons (pe_tup pa_nil) pa_nil)))) (pe_and (pe_callD h__law_refused (hr.mono (by decide)) (by rfl) passL (pa_cons pe_int (pa_cons pe_int (pa_cons (pe_tup pa_nil) pa_nil)))) (pe_and (pe_callD h__law_refused (hr.mono (by decide)) (by rfl) passL (pa_cons (pv 2) (pa_cons (pe_op op_add (pv 2) pe_int) (pa_cons (pe_tup pa_nil) pa_nil)))) (pe_one (pe_callD h__law_refused (hr.mono (by decide)) (by rfl) passL (pa_cons (pv 2) (pa_cons (pe_op op_sub pe_int pe_int) (pa_cons (pe_tup pa_nil) pa_nil)))))))))))))))))))))))))))))))))))))))), fun ds r hR => by
    cases hR with
    | @mk ns =>
      obtain ⟨ho, h8⟩ := law_ok ns
      have hm := lawM_in ns
      have hs := lawS_in ns
      have hLIM : LIM = 1000000 := rfl
      have hdl : (lawDg ns).length = 4 := lawRow_len ..
      have hml : (lawMk ns).length = (8 * lawM ns).toNat := lawRow_len ..
      obtain ⟨hfo, hfn⟩ := fr_fok ns
      exact .inl (show SD K E _ [.da (scr ns), .un, .un, .un, .un, .un, .un, .un, .un, .un, .un, .un, .un, .un, .un, .un, .un, .un, .un, .un] _ from (sd_seq (sd_set (ED.to (ed_call (eda_cons (ed_call (eda_cons (ed_var rfl) (eda_cons ed_int eda_nil)) (law_at_of (k := 0) rfl)) (eda_cons ed_int (eda_cons ed_int eda_nil))) (R__law_row.mk (by decide) (by decide) (by decide) (by decide))) (show _ = PyData.list ((lawDg ns).map .int) from rfl)))
  (sd_seq (sd_set (ED.to (ed_add ed_int (ed_mod (ed_ixLi (ed_var rfl) ed_int (by decide) (by omega)) ed_int (by decide))) (show _ = PyData.int (lawM ns) from rfl)))
  (sd_seq (sd_set (ED.to (ed_cb (eda_cons (ed_var rfl) (eda_cons (ed_mod (ed_ixLi (ed_var rfl) ed_int (by decide) (by omega)) ed_int (by decide)) eda_nil)) rc_min2) (show _ = PyData.int (lawS ns) from rfl)))
  (sd_seq (sd_set (ED.to (ed_call (eda_cons (ed_call (eda_cons (ed_var rfl) (eda_cons ed_int eda_nil)) (law_at_of (k := 1) rfl)) (eda_cons (ed_mul ed_int (ed_var rfl) (by exact .inl (by decide))) (eda_cons ed_int eda_nil))) (R__law_row.mk (by omega) (by omega) (by decide) (by decide))) (show _ = PyData.list ((lawMk ns).map .int) from rfl)))
  (sd_seq (sd_new eda_nil)
  (sd_seq (sd_for (S := fun rs : List (List Int) => [.da (scr ns), .da (.list ((lawDg ns).map .int)), .da (.int (lawM ns)), .da (.int (lawS ns)), .da (.list ((lawMk ns).map .int)), .ow (mlA K (rs.map tupI)), .un, .un, .un, .un, .un, .un, .un, .un, .un, .un, .un, .un, .un, .un]) (step := fun rs k => rs ++ [roundAt ns k]) (b0 := []) (f := .int) (xs := rng 0 ((lawDg ns).getD 2 0 % 9).toNat) (it_rng1 (eda_cons (ed_mod (ed_ixLi (ed_var rfl) ed_int (by decide) (by omega)) ed_int (by decide)) eda_nil) (by exact (show _ ≤ (lawDg ns).getD 2 0 % 9 by omega)) (by exact (show (lawDg ns).getD 2 0 % 9 < _ by omega))) (by walk_at "le") (fun pre post x hx => ⟨_, gs_name, .inl (SD.weak (sd_append rfl (ed_cb (eda_cons (ed_lc_filter (fun j => decide ((lawMk ns).getD (lawM ns * x + j).toNat 0 = 0)) (h := .int) (it_rng1 (eda_cons (ed_var rfl) eda_nil) (by omega) (by omega)) (by rw [rng_len]; omega) (fun z hz => ⟨_, (gd_name (by decide)), ((et_cmp (ed_eqI (ed_ixLi (ed_var rfl) (ed_add (ed_mul (ed_var rfl) (ed_var rfl) (by exact .inl (by omega))) (ed_var rfl)) (by have a := rng_at hx; have c := k_rng hz; have h1 : 0 ≤ lawM ns * x := Int.mul_nonneg (by omega) (by omega); omega) (by have a := rng_at hx; have c := k_rng hz; have h1 : lawM ns * x ≤ lawM ns * 7 := Int.mul_le_mul_of_nonneg_left (by omega) (by omega); omega)) ed_int))).to (by rfl), fun hp => ((ed_var rfl)).to (by rfl)⟩)) eda_nil) rc_tuple_l) (by have := rng_at hx; rw [foldl_snoc, List.length_map, List.length_append, List.length_map]; simp; omega)) (by walk_at "le"))⟩))
  (sd_freeze 5 rfl (sd_seq (sd_set (ED.to (ed_cb (eda_cons (ed_var rfl) eda_nil) rc_tuple_l) (show PyData.tuple _ = .tuple ((lawRs ns).map tupI) by rw [foldl_snoc, List.nil_append]; rfl)))
  (sd_seq (sd_set (ed_call (eda_cons (ed_var rfl) (eda_cons (ed_var rfl) (eda_cons (ed_var rfl) eda_nil))) (R__law_left.mk (m := lawM ns) (s := lawS ns) (rs := lawRs ns) ⟨by omega, by omega⟩ ⟨by omega, by omega⟩ (by omega))))
  (sd_ifs (b := false) (ET.to (et_or (et_cmp (ed_neD (ed_call (eda_cons (ed_var rfl) (eda_cons (ed_var rfl) (eda_cons (ed_var rfl) eda_nil))) (R_friend_lots.mk ho)) (ed_cb (eda_cons (ed_var rfl) eda_nil) rc_tuple_l) (by exact shp_lots _) (by exact shp_lots _))) (fun hb => (et_not (et_val (ed_call (eda_cons (ed_call (eda_cons (ed_var rfl) (eda_cons (ed_var rfl) (eda_cons (ed_var rfl) eda_nil))) (R_is_known.mk ho)) (eda_cons (ed_eqI (ed_cb (eda_cons (ed_var rfl) eda_nil) rc_lenL) ed_int) eda_nil)) (R__law_flag.mk)))))) (by rw [eqv_lots, flag_same]; rfl)) (fun hb => Bool.noConfusion hb) (fun hb => (sd_nexts (sd_seq (sd_set ed_non)
  (sd_seq (sd_if (et_truL (ed_var rfl)) (fun hb => (sd_set (ED.to (ed_cb (eda_cons (ed_lc_filter (fun j => (leftL (lawM ns) (lawS ns).toNat (lawRs ns)).all fun lot => decide (j ∈ lot)) (h := .int) (it_rng1 (eda_cons (ed_var rfl) eda_nil) (by omega) (by omega)) (by exact rng_lim hm.2) (fun x hx => ⟨_, (gd_name (by decide)), ((et_val (ed_cb (eda_cons (ed_lc_map  (it_list (ed_var rfl)) (by exact ho.lim) (fun u hu => ⟨_, (gd_name (by decide)), ((ed_inI (ed_var rfl) (ed_var rfl) (by exact rfl))).to (by rfl)⟩)) eda_nil) rc_allm))).to (by rfl), fun hp => ((ed_var rfl)).to (by rfl)⟩)) eda_nil) rc_tuple_l) (show PyData.tuple _ = sureX (lawM ns) (lawS ns).toNat (lawRs ns) by unfold sureX; rw [if_neg (by simpa using hb)]; rfl)))) (fun hb => (SD.to sd_next (by rw [show sureX (lawM ns) (lawS ns).toNat (lawRs ns) = .none by unfold sureX; rw [if_pos (by simpa using hb)]]; rfl)))) (sd_ifs (b := false) (ET.to (et_cmp (ed_neD (ed_call (eda_cons (ed_var rfl) (eda_cons (ed_var rfl) (eda_cons (ed_var rfl) eda_nil))) (show R_sure_friends [.int (lawM ns), .int (lawS ns), .tuple ((lawRs ns).map tupI)] (.val (sureX (lawM ns) (lawS ns).toNat (lawRs ns))) from R_sure_friends.mk ho)) (ed_var rfl) (by exact shp_sure _ _ _) (by exact shp_sure _ _ _))) (by exact ne_same rfl (eqv_sure _ _ _))) (fun hb => Bool.noConfusion hb) (fun hb => (sd_nexts (sd_ifs (b := false) (ET.to (et_cmp (ed_neD (ed_call (eda_cons (ed_var rfl) (eda_cons (ed_var rfl) (eda_cons (ed_var rfl) eda_nil))) (R_cleared.mk ho)) (ed_cb (eda_cons (ed_lc_filter (fun j => !((leftL (lawM ns) (lawS ns).toNat (lawRs ns)).any fun lot => decide (j ∈ lot))) (h := .int) (it_rng1 (eda_cons (ed_var rfl) eda_nil) (by omega) (by omega)) (by exact rng_lim hm.2) (fun x hx => ⟨_, (gd_name (by decide)), ((et_not (et_val (ed_cb (eda_cons (ed_lc_map  (it_list (ed_var rfl)) (by exact ho.lim) (fun u hu => ⟨_, (gd_name (by decide)), ((ed_inI (ed_var rfl) (ed_var rfl) (by exact rfl))).to (by rfl)⟩)) eda_nil) rc_anym)))).to (by rfl), fun hp => ((ed_var rfl)).to (by rfl)⟩)) eda_nil) rc_tuple_l) (by exact shp_tupI _) (by exact shp_tupI _))) (by exact ne_same rfl (eqv_tupI _))) (fun hb => Bool.noConfusion hb) (fun hb => (sd_nexts (sd_seq (sd_set ed_non)
  (sd_seq (sd_for (S := fun d : Option Int => [.da (scr ns), .da (.list ((lawDg ns).map .int)), .da (.int (lawM ns)), .da (.int (lawS ns)), .un, .da (.tuple ((lawRs ns).map tupI)), .un, .da (.list ((leftL (lawM ns) (lawS ns).toNat (lawRs ns)).map tupI)), .un, .da (optD .int d), .un, .un, .un, .un, .un, .un, .un, .un, .un, .un]) (step := stepDue (fun k => !(leftL (lawM ns) k.toNat (lawRs ns)).isEmpty)) (b0 := none) (f := .int) (xs := rngD (lawM ns) (lawM ns - (0 - 1)).toNat) (it_rngD (eda_cons (ed_var rfl) (eda_cons (ed_sub ed_int ed_int) (eda_cons (ed_neg ed_int) eda_nil))) (by exact ⟨by omega, by omega, by omega, by omega⟩)) (by walk_at "le") (fun pre post x hx => ⟨_, gs_name, .inl (sd_if (et_truL (ed_call (eda_cons (ed_var rfl) (eda_cons (ed_var rfl) (eda_cons (ed_var rfl) eda_nil))) (R__law_left.mk (m := lawM ns) (s := x) (rs := lawRs ns) ⟨by omega, by omega⟩ (by have := rngD_at hx; omega) (by omega)))) (fun hb => (SD.weak (sd_set (ed_var rfl)) (by rw [stepDue_yes (by simpa using hb)]; walk_at "le"))) (fun hb => (SD.weak sd_next (by rw [stepDue_no (by simpa using hb)]; walk_at "le"))))⟩))
  (sd_ifs (b := false) (ET.to (et_cmp (ed_neD (ed_call (eda_cons (ed_var rfl) (eda_cons (ed_var rfl) eda_nil)) (R_least_size.mk ho.zero)) (ed_var rfl) (by rw [least_due _ (by omega)]; exact shp_opt _) (by exact shp_opt _))) (by exact ne_same (least_due _ (by omega) _) (eqv_opt _))) (fun hb => Bool.noConfusion hb) (fun hb => (sd_nexts (sd_seq (sd_set ed_non)
  (sd_seq (sd_for (S := fun d : Option Int => [.da (scr ns), .da (.list ((lawDg ns).map .int)), .da (.int (lawM ns)), .da (.int (lawS ns)), .un, .da (.tuple ((lawRs ns).map tupI)), .un, .da (.list ((leftL (lawM ns) (lawS ns).toNat (lawRs ns)).map tupI)), .un, .da (optD .int d), .un, .un, .un, .un, .un, .un, .un, .un, .un, .un]) (step := stepDue (fun k => decide ((leftL (lawM ns) (lawS ns).toNat ((lawRs ns).take k.toNat)).length = 1))) (b0 := none) (f := .int) (xs := rngD (((lawRs ns).map tupI).length : Int) ((((lawRs ns).map tupI).length : Int) - (0 - 1)).toNat) (it_rngD (eda_cons (ed_cb (eda_cons (ed_var rfl) eda_nil) rc_lenT) (eda_cons (ed_sub ed_int ed_int) (eda_cons (ed_neg ed_int) eda_nil))) (by rw [List.length_map]; exact ⟨by omega, by omega, by omega, by omega⟩)) (by walk_at "le") (fun pre post x hx => ⟨_, gs_name, .inl (sd_if (et_cmp (ed_eqI (ed_cb (eda_cons (ed_call (eda_cons (ed_var rfl) (eda_cons (ed_var rfl) (eda_cons (ED.to (ed_slT (ed_var rfl) edo_none (edo_some (ed_var rfl))) (by exact (show PyData.tuple (cutD ((lawRs ns).map tupI) none (some x)) = .tuple (((lawRs ns).take x.toNat).map tupI) by rw [cutD_to _ (by have := rngD_at hx; omega), List.map_take]))) eda_nil))) (R__law_left.mk (m := lawM ns) (s := lawS ns) (rs := (lawRs ns).take x.toNat) ⟨by omega, by omega⟩ ⟨by omega, by omega⟩ (by rw [List.length_take]; omega))) eda_nil) rc_lenL) ed_int)) (fun hb => (SD.weak (sd_set (ed_var rfl)) (by rw [stepDue_yes (by simp at hb ⊢; omega)]; walk_at "le"))) (fun hb => (SD.weak sd_next (by rw [stepDue_no (by simp at hb ⊢; omega)]; walk_at "le"))))⟩))
  (sd_ifs (b := false) (ET.to (et_cmp (ed_neD (ed_call (eda_cons (ed_var rfl) (eda_cons (ed_var rfl) (eda_cons (ed_var rfl) eda_nil))) (R_rounds_enough.mk ho)) (ed_var rfl) (by rw [enough_due]; exact shp_opt _) (by exact shp_opt _))) (by exact ne_same (enough_due _ _ _) (eqv_opt _))) (fun hb => Bool.noConfusion hb) (fun hb => (sd_nexts (sd_seq (sd_set ed_non)
  (sd_seq (sd_if (et_cmp (ed_gt (ed_cb (eda_cons (ed_var rfl) eda_nil) rc_lenL) ed_int)) (fun hb => (sd_set (ED.to (ed_cb (eda_cons (ED.to (ed_slL (ed_var rfl) edo_none (edo_some ed_int)) (by exact (show PyData.list (cutD ((leftL (lawM ns) (lawS ns).toNat (lawRs ns)).map tupI) none (some 2)) = .list (((leftL (lawM ns) (lawS ns).toNat (lawRs ns)).take 2).map tupI) by rw [cutD_to _ (by decide), ← List.map_take]; rfl))) eda_nil) rc_tuple_l) (show PyData.tuple _ = twoX (lawM ns) (lawS ns).toNat (lawRs ns) by unfold twoX; rw [if_pos (by simp at hb; omega)])))) (fun hb => (SD.to sd_next (by rw [show twoX (lawM ns) (lawS ns).toNat (lawRs ns) = .none by unfold twoX; rw [if_neg (by simp at hb; omega)]]; rfl)))) (sd_ifs (b := false) (ET.to (et_cmp (ed_neD (ed_call (eda_cons (ed_var rfl) (eda_cons (ed_var rfl) (eda_cons (ed_var rfl) eda_nil))) (show R_two_left [.int (lawM ns), .int (lawS ns), .tuple ((lawRs ns).map tupI)] (.val (twoX (lawM ns) (lawS ns).toNat (lawRs ns))) from R_two_left.mk ho)) (ed_var rfl) (by exact shp_two _ _ _) (by exact shp_two _ _ _))) (by exact ne_same rfl (eqv_two _ _ _))) (fun hb => Bool.noConfusion hb) (fun hb => (sd_nexts (sd_seq (sd_set (ed_lc_filter (fun k => PyData.eqv (.tuple ((leftL (lawM ns) (lawS ns).toNat ((lawRs ns).take k.toNat ++ (lawRs ns).drop (k.toNat + 1))).map tupI)) (.tuple ((leftL (lawM ns) (lawS ns).toNat (lawRs ns)).map tupI))) (h := .int) (it_rng1 (eda_cons (ed_cb (eda_cons (ed_var rfl) eda_nil) rc_lenT) eda_nil) (by rw [List.length_map]; omega) (by rw [List.length_map]; omega)) (by rw [rng_len, List.length_map]; omega) (fun x hx => ⟨_, (gd_name (by decide)), ((et_cmp (ed_eqD (ed_call (eda_cons (ed_var rfl) (eda_cons (ed_var rfl) (eda_cons (ed_catT (ED.to (ed_slT (ed_var rfl) edo_none (edo_some (ed_var rfl))) (by exact (show PyData.tuple (cutD ((lawRs ns).map tupI) none (some x)) = .tuple (((lawRs ns).take x.toNat).map tupI) by rw [cutD_to _ (by have := k_rng hx; omega), List.map_take]))) (ED.to (ed_slT (ed_var rfl) (edo_some (ed_add (ed_var rfl) ed_int)) edo_none) (by exact (show PyData.tuple (cutD ((lawRs ns).map tupI) (some (x + 1)) none) = .tuple (((lawRs ns).drop (x.toNat + 1)).map tupI) by rw [cutD_from _ (by have := k_rng hx; omega), List.map_drop, show (x + 1).toNat = x.toNat + 1 by have := k_rng hx; omega]))) (by rw [List.length_append, List.length_map, List.length_map, List.length_take, List.length_drop]; omega)) eda_nil))) (by have := R__law_left.mk (m := lawM ns) (s := lawS ns) (rs := (lawRs ns).take x.toNat ++ (lawRs ns).drop (x.toNat + 1)) ⟨by omega, by omega⟩ ⟨by omega, by omega⟩ (by rw [List.length_append, List.length_take, List.length_drop]; omega); rw [List.map_append] at this; exact this)) (ed_var rfl) (by exact shp_lotsL _) (by exact shp_lotsL _)))).to (by rw [eqv_list]), fun hp => ((ed_var rfl)).to (by rfl)⟩)))
  (sd_ifs (b := false) (ET.to (et_cmp (ed_neD (ed_call (eda_cons (ed_var rfl) (eda_cons (ed_var rfl) (eda_cons (ed_var rfl) eda_nil))) (R_spare_rounds.mk ho)) (ed_cb (eda_cons (ed_var rfl) eda_nil) rc_tuple_l) (by exact shp_tupI _) (by exact shp_tupI _))) (by exact ne_same rfl (eqv_tupI _))) (fun hb => Bool.noConfusion hb) (fun hb => (sd_nexts (sd_ifs (b := false) (ET.to (et_cmp (ed_neD (ed_call (eda_cons (ed_var rfl) (eda_cons (ed_var rfl) (eda_cons (ed_var rfl) eda_nil))) (R_parts_of.mk ho)) (ed_cb (eda_cons (ed_lc_map (f := .int) (xs := rng 0 (lawM ns).toNat) (h := partD (leftL (lawM ns) (lawS ns).toNat (lawRs ns))) (it_rng1 (eda_cons (ed_var rfl) eda_nil) (by omega) (by omega)) (by exact rng_lim hm.2) (fun x hx => ⟨_, (gd_name (by decide)), ((ed_tup (eda_cons (ed_cb (eda_cons (ed_lc_filter (fun lot => decide (x ∈ lot)) (h := fun _ => .int 1) (it_list (ed_var rfl)) (by exact ho.lim) (fun u hu => ⟨_, (gd_name (by decide)), ((et_cmp (ed_inI (ed_var rfl) (ed_var rfl) (by exact rfl)))).to (by rfl), fun hp => (ed_int).to (by rfl)⟩)) eda_nil) rc_lenL) (eda_cons (ed_cb (eda_cons (ed_var rfl) eda_nil) rc_lenL) eda_nil)))).to (by simp [partD])⟩)) eda_nil) rc_tuple_l) (by exact shp_parts _ _) (by exact shp_parts _ _))) (by exact ne_same rfl (eqv_parts _ _))) (fun hb => Bool.noConfusion hb) (fun hb => (sd_nexts (sd_seq (sd_set (ed_lst eda_nil))
  (sd_seq (sd_new eda_nil)
  (sd_seq (sd_for (S := fun b : FS => [.da (scr ns), .da (.list ((lawDg ns).map .int)), .da (.int (lawM ns)), .da (.int (lawS ns)), .un, .un, .un, .un, .un, .un, .da (.list (b.1.map .int)), .ow (mlA K (b.2.map tupI)), .un, .un, .un, .un, .un, .un, .un, .un]) (step := stepF ns) (b0 := ([], [])) (f := .int) (xs := rng 0 (1 + (lawDg ns).getD 3 0 % 3).toNat) (it_rng1 (eda_cons (ed_add ed_int (ed_mod (ed_ixLi (ed_var rfl) ed_int (by decide) (by omega)) ed_int (by decide))) eda_nil) (by exact (show _ ≤ 1 + (lawDg ns).getD 3 0 % 3 by omega)) (by exact (show 1 + (lawDg ns).getD 3 0 % 3 < _ by omega))) (by walk_at "le") (fun pre post x hx => ⟨_, gs_name, .inl (sd_seq (sd_set (ed_call (eda_cons (ed_var rfl) (eda_cons (ed_add (ed_mul ed_int (ed_var rfl) (by exact .inl (by decide))) ed_int) (eda_cons ed_int eda_nil))) (post_at ns (fr_pre hx).2.2)))
  (sd_seq (sd_set (ed_sortedSet (ED.to (ed_lc_filter (fun o : Order => decide (o.w = 0)) (h := fun o => .int o.r) (it_tup (ed_dgetK (ed_var rfl) (ED.to ed_str (show _ = (keyD (.inr "orders")) from rfl)) (world_orders ns (pA x)))) (by exact Nat.le_trans (post_all ns (pA x)).six (by decide)) (fun z hz => ⟨_, (gd_name (by decide)), ((et_cmp (ed_eqI (ed_ixT (ed_var rfl) ed_int rfl rfl) ed_int))).to (by rfl), fun hp => ((ed_ixT (ed_var rfl) ed_int rfl rfl)).to (by rfl)⟩)) (by exact (show PyData.list _ = .list ((readersOf (pOrd ns (pA x))).map .int) by unfold readersOf; rw [List.map_map]; rfl))) (by have := readers_few ns x; omega) (mine_pair ns x) (mine_mem ns x)))
  (sd_seq (sd_set (ed_sortedSet (ED.to (ed_lc_map (f := letD) (xs := (pRun ns (pA x)).letters) (h := fun l => .int l.p) (it_tup (ed_meth (ed_dgetK (ed_var rfl) (ED.to ed_str (show _ = (keyD (.inr "told")) from rfl)) (world_told ns (pA x))) T.k_Told.f.at_ rfl eda_nil (R_Told_came.mk))) (by have := came_few ns x; unfold cameOf at this; rw [List.length_map] at this; omega) (fun z hz => ⟨_, (gd_name (by decide)), ((ed_ixT (ed_var rfl) ed_int rfl rfl)).to (by rfl)⟩)) (by exact (show PyData.list _ = .list ((cameOf ns x).map .int) by unfold cameOf; rw [List.map_map]; rfl))) (by have := came_few ns x; omega) (got_pair ns x) (got_mem ns x)))
  (sd_if (et_truL (ed_var rfl)) (fun hb => (sd_seq (sd_set (ed_catL (ed_var rfl) (ed_lc_filter (fun p => !decide (p ∈ (pre.foldl (stepF ns) ([], [])).1)) (h := .int) (it_list (ed_var rfl)) (by have := mine_len ns x; omega) (fun z hz => ⟨_, (gd_name (by decide)), ((et_cmp (ed_inI (ed_var rfl) (ed_var rfl) (by exact rfl)))).to (by rfl), fun hp => ((ed_var rfl)).to (by rfl)⟩)) (by have h1 := (fr_pre hx).1; have h2 := mine_len ns x; have h3 := List.length_filter_le (fun p => !decide (p ∈ (pre.foldl (stepF ns) ([], [])).1)) (mineOf ns x); rw [List.length_append, List.length_map, List.length_map]; omega)))
  (SD.weak (sd_append rfl (ed_cb (eda_cons (ed_var rfl) eda_nil) rc_tuple_l) (by have := (fr_pre hx).2.1; rw [List.length_map]; omega)) (by rw [stepF_yes (by rw [emp_map] at hb; exact hb)]; walk_at "le")))) (fun hb => (SD.weak sd_next (by rw [stepF_no (by rw [emp_map] at hb; exact hb)]; walk_at "le")))))))⟩))
  (sd_freeze 11 rfl (sd_ifs (b := false) (ET.to (et_and (et_truL (ed_var rfl)) (fun hb => (et_cmp (ed_inA (ed_cb (eda_cons (ed_cb (eda_cons (ed_var rfl) eda_nil) (rc_sortm (by exact al_int _) (by exact so_int _) (by exact dp_int _) (by exact lay_ints _))) eda_nil) rc_tuple_l) (ed_call (eda_cons ed_int (eda_cons (ed_cb (eda_cons (ed_var rfl) eda_nil) rc_lenL) (eda_cons (ed_cb (eda_cons (ed_var rfl) eda_nil) rc_tuple_l) eda_nil))) (fr_lots hfo hfn)) (by exact rfl) (by exact tup_lay _) (by exact tup_dep _) (by exact lots_cl _))))) (by exact fr_test hfo)) (fun hb => Bool.noConfusion hb) (fun hb => (sd_nexts (sd_seq (sd_for (S := fun _ : Unit => [.un, .un, .da (.int (lawM ns)), .da (.int (lawS ns)), .un, .un, .un, .un, .un, .un, .un, .un, .un, .un, .un, .un, .un, .un, .un, .un]) (step := fun _ _ => ()) (b0 := ()) (f := fun d => d) (xs := ([.none, .list [], .tuple [.tuple [.int (lawM ns)]], .tuple [.tuple [.int 1, .int 0]], .tuple [.tuple [.int (0 - 1)]], .tuple ((List.replicate (41 : Int).toNat [PyData.tuple []]).flatten)] : List PyData)) (it_list (ed_lst (eda_cons ed_non (eda_cons (ed_lst eda_nil) (eda_cons (ed_tup (eda_cons (ed_tup (eda_cons (ed_var rfl) eda_nil)) eda_nil)) (eda_cons (ed_tup (eda_cons (ed_tup (eda_cons ed_int (eda_cons ed_int eda_nil))) eda_nil)) (eda_cons (ed_tup (eda_cons (ed_tup (eda_cons (ed_sub ed_int ed_int) eda_nil)) eda_nil)) (eda_cons (ed_repT (ed_tup (eda_cons (ed_tup eda_nil) eda_nil)) ed_int (by simp) (by decide) (by decide) (by simp)) eda_nil)))))))) (by walk_at "le") (fun pre post x hx => ⟨_, gs_name, .inl (SD.weak (sd_if (b := false) (ET.to (et_not (et_val (ed_call (eda_cons (ed_var rfl) (eda_cons (ed_var rfl) (eda_cons (ed_var rfl) eda_nil))) (R__law_refused.mk (bad_thing hm hs (by rw [show things (lawM ns) = pre ++ x :: post from hx]; simp)))))) (by rfl)) (fun hb => Bool.noConfusion hb) (fun hb => sd_next)) (by walk_at "le"))⟩))
  (sd_ret (ED.to (ed_and (ed_call (eda_cons ed_int (eda_cons ed_int (eda_cons (ed_tup eda_nil) eda_nil))) (R__law_refused.mk (.bad1 (by decide)))) (fun hb => (ed_and (ed_call (eda_cons ed_int (eda_cons ed_int (eda_cons (ed_tup eda_nil) eda_nil))) (R__law_refused.mk (.bad1 (by decide)))) (fun hb => (ed_and (ed_call (eda_cons (ed_var rfl) (eda_cons (ed_add (ed_var rfl) ed_int) (eda_cons (ed_tup eda_nil) eda_nil))) (R__law_refused.mk (.bad2 (by simp <;> omega) (by simp <;> omega)))) (fun hb => (ed_call (eda_cons (ed_var rfl) (eda_cons (ed_sub ed_int ed_int) (eda_cons (ed_tup eda_nil) eda_nil))) (R__law_refused.mk (.bad2 (by simp <;> omega) (by simp <;> omega)))))))))) (by rfl))))))))))))))))))))))))))))))))))))))))))))))))))))))⟩
end
/-! ### all defs together -/
section
variable {P : Program} {w : World} {K : PySem.W.Frag} {mg : Str → Option Value} {base : Heap}
theorem all_law (T : Txt K mg) {fl : Addr} {fdl : FuncData} (F : Fun K "law" "law" st_law fl fdl) : FnOk P w K mg base (L2.CX P w) 12 fl fdl ["script"] (spD K R_law) := by
  have h_is_integer := d_is_integer (P := P) (w := w) (base := base) T
  have h_is_tuple_of := d_is_tuple_of (P := P) (w := w) (base := base) T
  have h_unlike := d_unlike (P := P) (w := w) (base := base) T
  have h_lots_of := d_lots_of (P := P) (w := w) (base := base) T
  have h_meets := d_meets (P := P) (w := w) (base := base) T
  have h_over := d_over (P := P) (w := w) (base := base) T
  have h_off := d_off (P := P) (w := w) (base := base) T
  have h_grown := d_grown (P := P) (w := w) (base := base) T
  have h_tag_numbers := d_tag_numbers (P := P) (w := w) (base := base) T
  have h_holds := d_holds (P := P) (w := w) (base := base) T
  have h_host_count := d_host_count (P := P) (w := w) (base := base) T
  have h_stage_by := d_stage_by (P := P) (w := w) (base := base) T
  have h_hosts_by := d_hosts_by (P := P) (w := w) (base := base) T
  have h_rule_by := d_rule_by (P := P) (w := w) (base := base) T
  have h_long_of := d_long_of (P := P) (w := w) (base := base) T
  have h_places_of := d_places_of (P := P) (w := w) (base := base) T
  have h_spoilt := d_spoilt (P := P) (w := w) (base := base) T
  have h__law_rules := d__law_rules (P := P) (w := w) (base := base) T
  have h__law_hosts := d__law_hosts (P := P) (w := w) (base := base) T
  have h__law_mixed := d__law_mixed (P := P) (w := w) (base := base) T
  have h__law_ways := d__law_ways (P := P) (w := w) (base := base) T
  have h__law_at := d__law_at (P := P) (w := w) (base := base) T
  have h__law_flag := d__law_flag (P := P) (w := w) (base := base) T
  have h__law_lots := d__law_lots (P := P) (w := w) (base := base) T
  have h_Run_posted := d_Run_posted (P := P) (w := w) (base := base) T
  have h_Told___init__ := d_Told___init__ (P := P) (w := w) (base := base) T
  have h_Told_log := d_Told_log (P := P) (w := w) (base := base) T
  have h_Told_batches := d_Told_batches (P := P) (w := w) (base := base) T
  have h_Told_came := d_Told_came (P := P) (w := w) (base := base) T
  have h_Told_waiting := d_Told_waiting (P := P) (w := w) (base := base) T
  have h_is_between := d_is_between (P := P) (w := w) (base := base) T h_is_integer
  have h_is_under := d_is_under (P := P) (w := w) (base := base) T h_is_integer
  have h_left_lots := d_left_lots (P := P) (w := w) (base := base) T h_lots_of h_meets
  have h_sent_by := d_sent_by (P := P) (w := w) (base := base) T h_holds
  have h_order_places := d_order_places (P := P) (w := w) (base := base) T h_places_of
  have h_heads_of := d_heads_of (P := P) (w := w) (base := base) T h_tag_numbers
  have h_tail_of := d_tail_of (P := P) (w := w) (base := base) T h_off
  have h_peeled_by := d_peeled_by (P := P) (w := w) (base := base) T h_long_of h_off
  have h_next_place := d_next_place (P := P) (w := w) (base := base) T h_hosts_by
  have h__law_row := d__law_row (P := P) (w := w) (base := base) T h__law_mixed
  have h__law_left := d__law_left (P := P) (w := w) (base := base) T h__law_lots
  have h_Host___init__ := d_Host___init__ (P := P) (w := w) (base := base) T h_rule_by
  have h_are_under := d_are_under (P := P) (w := w) (base := base) T h_is_under
  have h_is_row := d_is_row (P := P) (w := w) (base := base) T h_is_under
  have h_is_tag := d_is_tag (P := P) (w := w) (base := base) T h_is_under
  have h_is_condition := d_is_condition (P := P) (w := w) (base := base) T h_is_between h_is_tuple_of
  have h_is_route := d_is_route (P := P) (w := w) (base := base) T h_host_count h_is_tuple_of h_is_under h_stage_by
  have h_bodies_of := d_bodies_of (P := P) (w := w) (base := base) T h_heads_of h_long_of h_order_places h_over h_tail_of
  have h_is_fault := d_is_fault (P := P) (w := w) (base := base) T h_host_count h_is_between h_is_tuple_of h_is_under
  have h__law_net := d__law_net (P := P) (w := w) (base := base) T h__law_row h__law_rules
  have h__law_orders := d__law_orders (P := P) (w := w) (base := base) T h__law_hosts h__law_row
  have h_Host_leaving := d_Host_leaving (P := P) (w := w) (base := base) T h_sent_by
  have h_Host_sends := d_Host_sends (P := P) (w := w) (base := base) T h_next_place h_peeled_by h_stage_by
  have h_is_lot := d_is_lot (P := P) (w := w) (base := base) T h_are_under
  have h_is_rule_row := d_is_rule_row (P := P) (w := w) (base := base) T h_is_between h_is_condition h_is_tuple_of
  have h_is_way := d_is_way (P := P) (w := w) (base := base) T h_is_route h_is_tag h_is_tuple_of h_is_under
  have h_is_place := d_is_place (P := P) (w := w) (base := base) T h_host_count h_is_between h_is_tag h_is_tuple_of h_is_under
  have h_is_text := d_is_text (P := P) (w := w) (base := base) T h_is_row h_is_tag h_is_tuple_of h_long_of
  have h_texts_by := d_texts_by (P := P) (w := w) (base := base) T h_bodies_of
  have h_are_faults := d_are_faults (P := P) (w := w) (base := base) T h_is_fault
  have h_Run___init__ := d_Run___init__ (P := P) (w := w) (base := base) T h_Host___init__ h_host_count
  have h_Run_host_step := d_Run_host_step (P := P) (w := w) (base := base) T h_Host_leaving h_Host_sends h_spoilt
  have h_are_seen := d_are_seen (P := P) (w := w) (base := base) T h_is_lot
  have h_is_rule := d_is_rule (P := P) (w := w) (base := base) T h_is_rule_row
  have h_is_order := d_is_order (P := P) (w := w) (base := base) T h_is_between h_is_row h_is_tuple_of h_is_under h_is_way
  have h_is_secrets := d_is_secrets (P := P) (w := w) (base := base) T h_is_place h_is_row h_long_of
  have h_is_posting := d_is_posting (P := P) (w := w) (base := base) T h_hosts_by h_is_between h_is_text h_is_tuple_of h_is_under
  have h_postings_by := d_postings_by (P := P) (w := w) (base := base) T h_texts_by
  have h_Run_step := d_Run_step (P := P) (w := w) (base := base) T h_Run_host_step h_Run_posted
  have h_need_seen := d_need_seen (P := P) (w := w) (base := base) T h_are_seen h_is_between
  have h_is_net := d_is_net (P := P) (w := w) (base := base) T h_is_between h_is_rule h_is_tuple_of
  have h_are_orders := d_are_orders (P := P) (w := w) (base := base) T h_is_order h_order_places h_unlike
  have h_are_postings := d_are_postings (P := P) (w := w) (base := base) T h_is_posting
  have h_run_by := d_run_by (P := P) (w := w) (base := base) T h_Run___init__ h_Run_step
  have h_friend_lots := d_friend_lots (P := P) (w := w) (base := base) T h_left_lots h_need_seen
  have h_least_size := d_least_size (P := P) (w := w) (base := base) T h_left_lots h_need_seen
  have h_rounds_enough := d_rounds_enough (P := P) (w := w) (base := base) T h_left_lots h_need_seen
  have h_need_net := d_need_net (P := P) (w := w) (base := base) T h_is_net
  have h_sure_friends := d_sure_friends (P := P) (w := w) (base := base) T h_friend_lots
  have h_cleared := d_cleared (P := P) (w := w) (base := base) T h_friend_lots
  have h_is_known := d_is_known (P := P) (w := w) (base := base) T h_friend_lots
  have h_two_left := d_two_left (P := P) (w := w) (base := base) T h_friend_lots
  have h_spare_rounds := d_spare_rounds (P := P) (w := w) (base := base) T h_friend_lots h_left_lots
  have h_parts_of := d_parts_of (P := P) (w := w) (base := base) T h_friend_lots
  have h_need_orders := d_need_orders (P := P) (w := w) (base := base) T h_are_orders h_need_net
  have h_need_secrets := d_need_secrets (P := P) (w := w) (base := base) T h_is_secrets h_need_net
  have h__law_refused := d__law_refused (P := P) (w := w) (base := base) T h_friend_lots
  have h_need_ready := d_need_ready (P := P) (w := w) (base := base) T h_need_orders h_need_secrets h_order_places
  have h_made_secrets := d_made_secrets (P := P) (w := w) (base := base) T h_grown h_is_between h_long_of h_need_orders h_order_places
  have h_need_run := d_need_run (P := P) (w := w) (base := base) T h_are_faults h_are_postings h_is_between h_need_secrets
  have h_led := d_led (P := P) (w := w) (base := base) T h_Told___init__ h_need_run h_run_by
  have h_postings_of := d_postings_of (P := P) (w := w) (base := base) T h_need_ready h_postings_by
  have h__law_post := d__law_post (P := P) (w := w) (base := base) T h_Told_log h__law_at h__law_net h__law_orders h__law_row h__law_ways h_led h_made_secrets h_postings_of
  exact d_law T h_Told_came h__law_at h__law_flag h__law_left h__law_post h__law_refused h__law_row h_cleared h_friend_lots h_is_known h_least_size h_parts_of h_rounds_enough h_spare_rounds h_sure_friends h_two_left F
end
theorem law_fd {K : PySem.W.Frag} {mg : Str → Option Value} (T : Txt K mg) {fa : Addr} (hfa : mg "law" = some (.ref fa)) (P : Program) (w : World) :
    ∃ fd : FuncData, (∀ (s : Shared) (v : Value), BindsTo s fd ⟨[v], []⟩ [("script", v)]) ∧ ∀ base : Heap, FnOk P w K mg base (L2.CX P w) 12 fa fd ["script"] (spD K R_law) := by
  obtain ⟨f, fd, F, B, M⟩ := T.d_law.ex
  rw [hfa] at M
  cases M
  refine ⟨fd, fun s v => ?_, fun base => all_law T F⟩
  obtain ⟨oc, od, kV, doc, pm, an, cdv, ct, osl, rfl, _, _⟩ := F.ex
  exact .of_eq rfl
end Lw

set_option Elab.async false
set_option linter.all false
set_option maxRecDepth 100000
open PySem PySem.W PyProof.Rows
set_option maxHeartbeats 0 in
theorem PySem.Challenge.cw_onionpost_k66_whole_friends_left_holds : PySem.Challenge.rw_onionpost_k66_whole_friends_left.Holds := by
  w_on; o_law; k_head; (case hw => w_witness2)
  k_fill
  refine L2.walk_of (l := PySem.Challenge.rw_onionpost_k66_whole_friends_left) (n := 63) (k := 12) (x := "script") (CX := fun w => L2.CX PySem.Challenge.rw_onionpost_k66_whole_friends_left.prog w) (sp := fun w => D2.spD _ Lw.R_law) rfl (by decide) rfl ⟨rfl, by decide, by decide⟩ (fun w h Y => PySem.W.kIn_of Y) ?F (fun w H a ns hl hO hS => Lw.law_sp hl hS) (fun _ _ _ _ _ h => D2.no_out h)
  case F =>
    intro w mg fa h KX G hmg
    refine' D2.with_it (D2.kat_mk (c := "Host") (ns := ["net", "host", "rule", "waiting", "used"]) (mg := mg) KX G ?kaHost ?kpHost ?khHost ?koHost ?ksHost (List.forall_mem_cons.mpr ⟨?fHost_net, (List.forall_mem_cons.mpr ⟨?fHost_host, (List.forall_mem_cons.mpr ⟨?fHost_rule, (List.forall_mem_cons.mpr ⟨?fHost_waiting, (List.forall_mem_cons.mpr ⟨?fHost_used, (List.forall_mem_nil _)⟩)⟩)⟩)⟩)⟩)) (fun T_Host => ?restHost)
    (case kaHost => k_is)
    (case kpHost => k_is)
    (case khHost => k_is)
    (case koHost => k_is)
    (case ksHost => k_is)
    (case fHost_net => k_is)
    (case fHost_host => k_is)
    (case fHost_rule => k_is)
    (case fHost_waiting => k_is)
    (case fHost_used => k_is)
    refine' D2.with_it (D2.kat_mk (c := "Run") (ns := ["net", "secrets", "postings", "faults", "hosts", "coming", "lines", "batches", "letters", "kept"]) (mg := mg) KX G ?kaRun ?kpRun ?khRun ?koRun ?ksRun (List.forall_mem_cons.mpr ⟨?fRun_net, (List.forall_mem_cons.mpr ⟨?fRun_secrets, (List.forall_mem_cons.mpr ⟨?fRun_postings, (List.forall_mem_cons.mpr ⟨?fRun_faults, (List.forall_mem_cons.mpr ⟨?fRun_hosts, (List.forall_mem_cons.mpr ⟨?fRun_coming, (List.forall_mem_cons.mpr ⟨?fRun_lines, (List.forall_mem_cons.mpr ⟨?fRun_batches, (List.forall_mem_cons.mpr ⟨?fRun_letters, (List.forall_mem_cons.mpr ⟨?fRun_kept, (List.forall_mem_nil _)⟩)⟩)⟩)⟩)⟩)⟩)⟩)⟩)⟩)⟩)) (fun T_Run => ?restRun)
    (case kaRun => k_is)
    (case kpRun => k_is)
    (case khRun => k_is)
    (case koRun => k_is)
    (case ksRun => k_is)
    (case fRun_net => k_is)
    (case fRun_secrets => k_is)
    (case fRun_postings => k_is)
    (case fRun_faults => k_is)
    (case fRun_hosts => k_is)
    (case fRun_coming => k_is)
    (case fRun_lines => k_is)
    (case fRun_batches => k_is)
    (case fRun_letters => k_is)
    (case fRun_kept => k_is)
    refine' D2.with_it (D2.kat_mk (c := "Told") (ns := ["lines", "done", "letters", "left"]) (mg := mg) KX G ?kaTold ?kpTold ?khTold ?koTold ?ksTold (List.forall_mem_cons.mpr ⟨?fTold_lines, (List.forall_mem_cons.mpr ⟨?fTold_done, (List.forall_mem_cons.mpr ⟨?fTold_letters, (List.forall_mem_cons.mpr ⟨?fTold_left, (List.forall_mem_nil _)⟩)⟩)⟩)⟩)) (fun T_Told => ?restTold)
    (case kaTold => k_is)
    (case kpTold => k_is)
    (case khTold => k_is)
    (case koTold => k_is)
    (case ksTold => k_is)
    (case fTold_lines => k_is)
    (case fTold_done => k_is)
    (case fTold_letters => k_is)
    (case fTold_left => k_is)
    refine' Exists.elim (Lw.law_fd (Lw.Txt.mk (T_Host) (T_Run) (T_Told) (D2.at_mk KX G (fun _ _ _ _ _ _ us hl => match us, hl with | [_], _ => rfl) ?a0 ?l0 ?c0 ?k0) (D2.at_mk KX G (fun _ _ _ _ _ _ us hl => match us, hl with | [_, _, _], _ => rfl) ?a1 ?l1 ?c1 ?k1) (D2.at_mk KX G (fun _ _ _ _ _ _ us hl => match us, hl with | [_, _], _ => rfl) ?a2 ?l2 ?c2 ?k2) (D2.at_mk KX G (fun _ _ _ _ _ _ us hl => match us, hl with | [_, _], _ => rfl) ?a3 ?l3 ?c3 ?k3) (D2.at_mk KX G (fun _ _ _ _ _ _ us hl => match us, hl with | [_, _], _ => rfl) ?a4 ?l4 ?c4 ?k4) (D2.at_mk KX G (fun _ _ _ _ _ _ us hl => match us, hl with | [_, _], _ => rfl) ?a5 ?l5 ?c5 ?k5) (D2.at_mk KX G (fun _ _ _ _ _ _ us hl => match us, hl with | [_], _ => rfl) ?a6 ?l6 ?c6 ?k6) (D2.at_mk KX G (fun _ _ _ _ _ _ us hl => match us, hl with | [_, _], _ => rfl) ?a7 ?l7 ?c7 ?k7) (D2.at_mk KX G (fun _ _ _ _ _ _ us hl => match us, hl with | [_, _, _], _ => rfl) ?a8 ?l8 ?c8 ?k8) (D2.at_mk KX G (fun _ _ _ _ _ _ us hl => match us, hl with | [_, _], _ => rfl) ?a9 ?l9 ?c9 ?k9) (D2.at_mk KX G (fun _ _ _ _ _ _ us hl => match us, hl with | [_, _], _ => rfl) ?a10 ?l10 ?c10 ?k10) (D2.at_mk KX G (fun _ _ _ _ _ _ us hl => match us, hl with | [_, _, _], _ => rfl) ?a11 ?l11 ?c11 ?k11) (D2.at_mk KX G (fun _ _ _ _ _ _ us hl => match us, hl with | [_, _, _], _ => rfl) ?a12 ?l12 ?c12 ?k12) (D2.at_mk KX G (fun _ _ _ _ _ _ us hl => match us, hl with | [_, _, _], _ => rfl) ?a13 ?l13 ?c13 ?k13) (D2.at_mk KX G (fun _ _ _ _ _ _ us hl => match us, hl with | [_, _, _], _ => rfl) ?a14 ?l14 ?c14 ?k14) (D2.at_mk KX G (fun _ _ _ _ _ _ us hl => match us, hl with | [_, _, _], _ => rfl) ?a15 ?l15 ?c15 ?k15) (D2.at_mk KX G (fun _ _ _ _ _ _ us hl => match us, hl with | [_, _], _ => rfl) ?a16 ?l16 ?c16 ?k16) (D2.at_mk KX G (fun _ _ _ _ _ _ us hl => match us, hl with | [_, _, _], _ => rfl) ?a17 ?l17 ?c17 ?k17) (D2.at_mk KX G (fun _ _ _ _ _ _ us hl => match us, hl with | [_, _, _], _ => rfl) ?a18 ?l18 ?c18 ?k18) (D2.at_mk KX G (fun _ _ _ _ _ _ us hl => match us, hl with | [_, _, _], _ => rfl) ?a19 ?l19 ?c19 ?k19) (D2.at_mk KX G (fun _ _ _ _ _ _ us hl => match us, hl with | [_, _, _], _ => rfl) ?a20 ?l20 ?c20 ?k20) (D2.at_mk KX G (fun _ _ _ _ _ _ us hl => match us, hl with | [_, _], _ => rfl) ?a21 ?l21 ?c21 ?k21) (D2.at_mk KX G (fun _ _ _ _ _ _ us hl => match us, hl with | [_, _], _ => rfl) ?a22 ?l22 ?c22 ?k22) (D2.at_mk KX G (fun _ _ _ _ _ _ us hl => match us, hl with | [_, _], _ => rfl) ?a23 ?l23 ?c23 ?k23) (D2.at_mk KX G (fun _ _ _ _ _ _ us hl => match us, hl with | [_, _], _ => rfl) ?a24 ?l24 ?c24 ?k24) (D2.at_mk KX G (fun _ _ _ _ _ _ us hl => match us, hl with | [_], _ => rfl) ?a25 ?l25 ?c25 ?k25) (D2.at_mk KX G (fun _ _ _ _ _ _ us hl => match us, hl with | [_], _ => rfl) ?a26 ?l26 ?c26 ?k26) (D2.at_mk KX G (fun _ _ _ _ _ _ us hl => match us, hl with | [_], _ => rfl) ?a27 ?l27 ?c27 ?k27) (D2.at_mk KX G (fun _ _ _ _ _ _ us hl => match us, hl with | [_], _ => rfl) ?a28 ?l28 ?c28 ?k28) (D2.at_mk KX G (fun _ _ _ _ _ _ us hl => match us, hl with | [_], _ => rfl) ?a29 ?l29 ?c29 ?k29) (D2.at_mk KX G (fun _ _ _ _ _ _ us hl => match us, hl with | [_, _, _, _], _ => rfl) ?a30 ?l30 ?c30 ?k30) (D2.at_mk KX G (fun _ _ _ _ _ _ us hl => match us, hl with | [_, _, _, _], _ => rfl) ?a31 ?l31 ?c31 ?k31) (D2.at_mk KX G (fun _ _ _ _ _ _ us hl => match us, hl with | [_], _ => rfl) ?a32 ?l32 ?c32 ?k32) (D2.at_mk KX G (fun _ _ _ _ _ _ us hl => match us, hl with | [_], _ => rfl) ?a33 ?l33 ?c33 ?k33) (D2.at_mk KX G (fun _ _ _ _ _ _ us hl => match us, hl with | [_], _ => rfl) ?a34 ?l34 ?c34 ?k34) (D2.at_mk KX G (fun _ _ _ _ _ _ us hl => match us, hl with | [_, _], _ => rfl) ?a35 ?l35 ?c35 ?k35) (D2.at_mk KX G (fun _ _ _ _ _ _ us hl => match us, hl with | [_, _], _ => rfl) ?a36 ?l36 ?c36 ?k36) (D2.at_mk KX G (fun _ _ _ _ _ _ us hl => match us, hl with | [_, _], _ => rfl) ?a37 ?l37 ?c37 ?k37) (D2.at_mk KX G (fun _ _ _ _ _ _ us hl => match us, hl with | [_], _ => rfl) ?a38 ?l38 ?c38 ?k38) (D2.at_mk KX G (fun _ _ _ _ _ _ us hl => match us, hl with | [_, _], _ => rfl) ?a39 ?l39 ?c39 ?k39) (D2.at_mk KX G (fun _ _ _ _ _ _ us hl => match us, hl with | [_, _, _, _], _ => rfl) ?a40 ?l40 ?c40 ?k40) (D2.at_mk KX G (fun _ _ _ _ _ _ us hl => match us, hl with | [_, _], _ => rfl) ?a41 ?l41 ?c41 ?k41) (D2.at_mk KX G (fun _ _ _ _ _ _ us hl => match us, hl with | [_, _, _], _ => rfl) ?a42 ?l42 ?c42 ?k42) (D2.at_mk KX G (fun _ _ _ _ _ _ us hl => match us, hl with | [_], _ => rfl) ?a43 ?l43 ?c43 ?k43) (D2.at_mk KX G (fun _ _ _ _ _ _ us hl => match us, hl with | [_, _], _ => rfl) ?a44 ?l44 ?c44 ?k44) (D2.at_mk KX G (fun _ _ _ _ _ _ us hl => match us, hl with | [_, _], _ => rfl) ?a45 ?l45 ?c45 ?k45) (D2.at_mk KX G (fun _ _ _ _ _ _ us hl => match us, hl with | [_, _], _ => rfl) ?a46 ?l46 ?c46 ?k46) (D2.at_mk KX G (fun _ _ _ _ _ _ us hl => match us, hl with | [_, _], _ => rfl) ?a47 ?l47 ?c47 ?k47) (D2.at_mk KX G (fun _ _ _ _ _ _ us hl => match us, hl with | [_, _], _ => rfl) ?a48 ?l48 ?c48 ?k48) (D2.at_mk KX G (fun _ _ _ _ _ _ us hl => match us, hl with | [_, _, _], _ => rfl) ?a49 ?l49 ?c49 ?k49) (D2.at_mk KX G (fun _ _ _ _ _ _ us hl => match us, hl with | [_, _, _], _ => rfl) ?a50 ?l50 ?c50 ?k50) (D2.at_mk KX G (fun _ _ _ _ _ _ us hl => match us, hl with | [_, _], _ => rfl) ?a51 ?l51 ?c51 ?k51) (D2.at_mk KX G (fun _ _ _ _ _ _ us hl => match us, hl with | [_], _ => rfl) ?a52 ?l52 ?c52 ?k52) (D2.at_mk KX G (fun _ _ _ _ _ _ us hl => match us, hl with | [_, _], _ => rfl) ?a53 ?l53 ?c53 ?k53) (D2.at_mk KX G (fun _ _ _ _ _ _ us hl => match us, hl with | [_, _, _], _ => rfl) ?a54 ?l54 ?c54 ?k54) (D2.at_mk KX G (fun _ _ _ _ _ _ us hl => match us, hl with | [_, _, _], _ => rfl) ?a55 ?l55 ?c55 ?k55) (D2.at_mk KX G (fun _ _ _ _ _ _ us hl => match us, hl with | [_, _, _], _ => rfl) ?a56 ?l56 ?c56 ?k56) (D2.at_mk KX G (fun _ _ _ _ _ _ us hl => match us, hl with | [_, _, _], _ => rfl) ?a57 ?l57 ?c57 ?k57) (D2.at_mk KX G (fun _ _ _ _ _ _ us hl => match us, hl with | [_, _], _ => rfl) ?a58 ?l58 ?c58 ?k58) (D2.at_mk KX G (fun _ _ _ _ _ _ us hl => match us, hl with | [_, _], _ => rfl) ?a59 ?l59 ?c59 ?k59) (D2.at_mk KX G (fun _ _ _ _ _ _ us hl => match us, hl with | [_, _], _ => rfl) ?a60 ?l60 ?c60 ?k60) (D2.at_mk KX G (fun _ _ _ _ _ _ us hl => match us, hl with | [_, _], _ => rfl) ?a61 ?l61 ?c61 ?k61) (D2.at_mk KX G (fun _ _ _ _ _ _ us hl => match us, hl with | [_, _, _, _, _], _ => rfl) ?a62 ?l62 ?c62 ?k62) (D2.initat_mk T_Host (fun _ _ _ _ _ _ us hl => match us, hl with | [_, _, _], _ => rfl) ?a63 ?i63 ?m63 ?l63 ?c63 ?k63 ?x63 ?y63) (D2.methat_mk T_Host (fun _ _ _ _ _ _ us hl => match us, hl with | [_, _, _], _ => rfl) ?a64 ?i64 ?m64 ?l64 ?c64 ?k64) (D2.methat_mk T_Host (fun _ _ _ _ _ _ us hl => match us, hl with | [_, _, _], _ => rfl) ?a65 ?i65 ?m65 ?l65 ?c65 ?k65) (D2.at_mk KX G (fun _ _ _ _ _ _ us hl => match us, hl with | [_, _, _, _], _ => rfl) ?a66 ?l66 ?c66 ?k66) (D2.initat_mk T_Run (fun _ _ _ _ _ _ us hl => match us, hl with | [_, _, _, _, _], _ => rfl) ?a67 ?i67 ?m67 ?l67 ?c67 ?k67 ?x67 ?y67) (D2.methat_mk T_Run (fun _ _ _ _ _ _ us hl => match us, hl with | [_, _], _ => rfl) ?a68 ?i68 ?m68 ?l68 ?c68 ?k68) (D2.methat_mk T_Run (fun _ _ _ _ _ _ us hl => match us, hl with | [_, _, _], _ => rfl) ?a69 ?i69 ?m69 ?l69 ?c69 ?k69) (D2.methat_mk T_Run (fun _ _ _ _ _ _ us hl => match us, hl with | [_, _], _ => rfl) ?a70 ?i70 ?m70 ?l70 ?c70 ?k70) (D2.at_mk KX G (fun _ _ _ _ _ _ us hl => match us, hl with | [_, _, _, _, _], _ => rfl) ?a71 ?l71 ?c71 ?k71) (D2.initat_mk T_Told (fun _ _ _ _ _ _ us hl => match us, hl with | [_, _], _ => rfl) ?a72 ?i72 ?m72 ?l72 ?c72 ?k72 ?x72 ?y72) (D2.methat_mk T_Told (fun _ _ _ _ _ _ us hl => match us, hl with | [_], _ => rfl) ?a73 ?i73 ?m73 ?l73 ?c73 ?k73) (D2.methat_mk T_Told (fun _ _ _ _ _ _ us hl => match us, hl with | [_], _ => rfl) ?a74 ?i74 ?m74 ?l74 ?c74 ?k74) (D2.methat_mk T_Told (fun _ _ _ _ _ _ us hl => match us, hl with | [_], _ => rfl) ?a75 ?i75 ?m75 ?l75 ?c75 ?k75) (D2.methat_mk T_Told (fun _ _ _ _ _ _ us hl => match us, hl with | [_], _ => rfl) ?a76 ?i76 ?m76 ?l76 ?c76 ?k76) (D2.at_mk KX G (fun _ _ _ _ _ _ us hl => match us, hl with | [_, _, _, _, _], _ => rfl) ?a77 ?l77 ?c77 ?k77) (D2.at_mk KX G (fun _ _ _ _ _ _ us hl => match us, hl with | [_, _, _], _ => rfl) ?a78 ?l78 ?c78 ?k78) (D2.at_mk KX G (fun _ _ _ _ _ _ us hl => match us, hl with | [_, _, _], _ => rfl) ?a79 ?l79 ?c79 ?k79) (D2.at_mk KX G (fun _ _ _ _ _ _ us hl => match us, hl with | [], _ => rfl) ?a80 ?l80 ?c80 ?k80) (D2.at_mk KX G (fun _ _ _ _ _ _ us hl => match us, hl with | [_, _], _ => rfl) ?a81 ?l81 ?c81 ?k81) (D2.at_mk KX G (fun _ _ _ _ _ _ us hl => match us, hl with | [_, _], _ => rfl) ?a82 ?l82 ?c82 ?k82) (D2.at_mk KX G (fun _ _ _ _ _ _ us hl => match us, hl with | [_], _ => rfl) ?a83 ?l83 ?c83 ?k83) (D2.at_mk KX G (fun _ _ _ _ _ _ us hl => match us, hl with | [_, _, _, _], _ => rfl) ?a84 ?l84 ?c84 ?k84) (D2.at_mk KX G (fun _ _ _ _ _ _ us hl => match us, hl with | [_], _ => rfl) ?a85 ?l85 ?c85 ?k85) (D2.at_mk KX G (fun _ _ _ _ _ _ us hl => match us, hl with | [_, _, _], _ => rfl) ?a86 ?l86 ?c86 ?k86) (D2.at_mk KX G (fun _ _ _ _ _ _ us hl => match us, hl with | [_, _], _ => rfl) ?a87 ?l87 ?c87 ?k87) (D2.at_mk KX G (fun _ _ _ _ _ _ us hl => match us, hl with | [_, _], _ => rfl) ?a88 ?l88 ?c88 ?k88) (D2.at_mk KX G (fun _ _ _ _ _ _ us hl => match us, hl with | [_, _, _], _ => rfl) ?a89 ?l89 ?c89 ?k89) (D2.at_mk KX G (fun _ _ _ _ _ _ us hl => match us, hl with | [_, _], _ => rfl) ?a90 ?l90 ?c90 ?k90) (D2.at_mk KX G (fun _ _ _ _ _ _ us hl => match us, hl with | [_, _, _], _ => rfl) ?a91 ?l91 ?c91 ?k91) (D2.at_mk KX G (fun _ _ _ _ _ _ us hl => match us, hl with | [_, _, _], _ => rfl) ?a92 ?l92 ?c92 ?k92) (D2.at_mk KX G (fun _ _ _ _ _ _ us hl => match us, hl with | [_], _ => rfl) ?a93 ?l93 ?c93 ?k93) (PySem.W.mg_none_of KX G ?z94) (PySem.W.mg_none_of KX G ?z95) (PySem.W.mg_none_of KX G ?z96) (PySem.W.mg_none_of KX G ?z97) (PySem.W.mg_none_of KX G ?z98) (PySem.W.mg_none_of KX G ?z99) (PySem.W.mg_none_of KX G ?z100) (PySem.W.mg_none_of KX G ?z101) (PySem.W.mg_none_of KX G ?z102) (PySem.W.mg_none_of KX G ?z103) (PySem.W.mg_none_of KX G ?z104) (PySem.W.mg_none_of KX G ?z105) (PySem.W.mg_none_of KX G ?z106) (PySem.W.mg_none_of KX G ?z107) (PySem.W.mg_none_of KX G ?z108) (PySem.W.mg_none_of KX G ?z109) (PySem.W.mg_none_of KX G ?z110) (D2.tup_mk2 KX G ?t111 ?u111 ?v111) (D2.int_mk KX G ?z112 ?e112) (D2.int_mk KX G ?z113 ?e113) (D2.int_mk KX G ?z114 ?e114) (D2.int_mk KX G ?z115 ?e115) (D2.int_mk KX G ?z116 ?e116) (D2.int_mk KX G ?z117 ?e117) (D2.int_mk KX G ?z118 ?e118) (D2.int_mk KX G ?z119 ?e119) (D2.int_mk KX G ?z120 ?e120) (D2.int_mk KX G ?z121 ?e121) (D2.int_mk KX G ?z122 ?e122) (D2.int_mk KX G ?z123 ?e123) (D2.int_mk KX G ?z124 ?e124) (D2.int_mk KX G ?z125 ?e125) (D2.int_mk KX G ?z126 ?e126) (D2.int_mk KX G ?z127 ?e127) (D2.int_mk KX G ?z128 ?e128) (D2.int_mk KX G ?z129 ?e129) (D2.int_mk KX G ?z130 ?e130) (D2.int_mk KX G ?z131 ?e131) (D2.int_mk KX G ?z132 ?e132) (⟨⟨_, PySem.W.mg_of KX G ?a133, ?a133, ?e133, ?k133, ?s133, ?t133⟩⟩) (⟨⟨_, PySem.W.mg_of KX G ?a134, ?a134, ?e134, ?k134, ?s134, ?t134⟩⟩) (⟨⟨_, PySem.W.mg_of KX G ?a135, ?a135, ?e135, ?k135, ?s135, ?t135⟩⟩) (⟨⟨_, PySem.W.mg_of KX G ?a136, ?a136, ?e136, ?k136, ?s136, ?t136⟩⟩) (⟨⟨_, PySem.W.mg_of KX G ?a137, ?a137, ?e137, ?k137, ?s137, ?t137⟩⟩) (⟨⟨_, PySem.W.mg_of KX G ?a138, ?a138, ?e138, ?k138, ?s138, ?t138⟩⟩) (⟨⟨_, PySem.W.mg_of KX G ?a139, ?a139, ?e139, ?k139, ?s139, ?t139⟩⟩) (D2.tryat_mk ?a140 ?b140 ?c140 ?d140 ?e140 ?f140 ?g140 ?h140 ?i140 ?j140 ?k140 ?l140 ?m140 ?n140)) hmg PySem.Challenge.rw_onionpost_k66_whole_friends_left.prog w) fun fd q => ⟨fd, q.1, fun base _ _ => q.2 base⟩
    (case a0 => k_is)
    (case l0 => k_is)
    (case c0 => k_is)
    (case k0 => k_is)
    (case a1 => k_is)
    (case l1 => k_is)
    (case c1 => k_is)
    (case k1 => k_is)
    (case a2 => k_is)
    (case l2 => k_is)
    (case c2 => k_is)
    (case k2 => k_is)
    (case a3 => k_is)
    (case l3 => k_is)
    (case c3 => k_is)
    (case k3 => k_is)
    (case a4 => k_is)
    (case l4 => k_is)
    (case c4 => k_is)
    (case k4 => k_is)
    (case a5 => k_is)
    (case l5 => k_is)
    (case c5 => k_is)
    (case k5 => k_is)
    (case a6 => k_is)
    (case l6 => k_is)
    (case c6 => k_is)
    (case k6 => k_is)
    (case a7 => k_is)
    (case l7 => k_is)
    (case c7 => k_is)
    (case k7 => k_is)
    (case a8 => k_is)
    (case l8 => k_is)
    (case c8 => k_is)
    (case k8 => k_is)
    (case a9 => k_is)
    (case l9 => k_is)
    (case c9 => k_is)
    (case k9 => k_is)
    (case a10 => k_is)
    (case l10 => k_is)
    (case c10 => k_is)
    (case k10 => k_is)
    (case a11 => k_is)
    (case l11 => k_is)
    (case c11 => k_is)
    (case k11 => k_is)
    (case a12 => k_is)
    (case l12 => k_is)
    (case c12 => k_is)
    (case k12 => k_is)
    (case a13 => k_is)
    (case l13 => k_is)
    (case c13 => k_is)
    (case k13 => k_is)
    (case a14 => k_is)
    (case l14 => k_is)
    (case c14 => k_is)
    (case k14 => k_is)
    (case a15 => k_is)
    (case l15 => k_is)
    (case c15 => k_is)
    (case k15 => k_is)
    (case a16 => k_is)
    (case l16 => k_is)
    (case c16 => k_is)
    (case k16 => k_is)
    (case a17 => k_is)
    (case l17 => k_is)
    (case c17 => k_is)
    (case k17 => k_is)
    (case a18 => k_is)
    (case l18 => k_is)
    (case c18 => k_is)
    (case k18 => k_is)
    (case a19 => k_is)
    (case l19 => k_is)
    (case c19 => k_is)
    (case k19 => k_is)
    (case a20 => k_is)
    (case l20 => k_is)
    (case c20 => k_is)
    (case k20 => k_is)
    (case a21 => k_is)
    (case l21 => k_is)
    (case c21 => k_is)
    (case k21 => k_is)
    (case a22 => k_is)
    (case l22 => k_is)
    (case c22 => k_is)
    (case k22 => k_is)
    (case a23 => k_is)
    (case l23 => k_is)
    (case c23 => k_is)
    (case k23 => k_is)
    (case a24 => k_is)
    (case l24 => k_is)
    (case c24 => k_is)
    (case k24 => k_is)
    (case a25 => k_is)
    (case l25 => k_is)
    (case c25 => k_is)
    (case k25 => k_is)
    (case a26 => k_is)
    (case l26 => k_is)
    (case c26 => k_is)
    (case k26 => k_is)
    (case a27 => k_is)
    (case l27 => k_is)
    (case c27 => k_is)
    (case k27 => k_is)
    (case a28 => k_is)
    (case l28 => k_is)
    (case c28 => k_is)
    (case k28 => k_is)
    (case a29 => k_is)
    (case l29 => k_is)
    (case c29 => k_is)
    (case k29 => k_is)
    (case a30 => k_is)
    (case l30 => k_is)
    (case c30 => k_is)
    (case k30 => k_is)
    (case a31 => k_is)
    (case l31 => k_is)
    (case c31 => k_is)
    (case k31 => k_is)
    (case a32 => k_is)
    (case l32 => k_is)
    (case c32 => k_is)
    (case k32 => k_is)
    (case a33 => k_is)
    (case l33 => k_is)
    (case c33 => k_is)
    (case k33 => k_is)
    (case a34 => k_is)
    (case l34 => k_is)
    (case c34 => k_is)
    (case k34 => k_is)
    (case a35 => k_is)
    (case l35 => k_is)
    (case c35 => k_is)
    (case k35 => k_is)
    (case a36 => k_is)
    (case l36 => k_is)
    (case c36 => k_is)
    (case k36 => k_is)
    (case a37 => k_is)
    (case l37 => k_is)
    (case c37 => k_is)
    (case k37 => k_is)
    (case a38 => k_is)
    (case l38 => k_is)
    (case c38 => k_is)
    (case k38 => k_is)
    (case a39 => k_is)
    (case l39 => k_is)
    (case c39 => k_is)
    (case k39 => k_is)
    (case a40 => k_is)
    (case l40 => k_is)
    (case c40 => k_is)
    (case k40 => k_is)
    (case a41 => k_is)
    (case l41 => k_is)
    (case c41 => k_is)
    (case k41 => k_is)
    (case a42 => k_is)
    (case l42 => k_is)
    (case c42 => k_is)
    (case k42 => k_is)
    (case a43 => k_is)
    (case l43 => k_is)
    (case c43 => k_is)
    (case k43 => k_is)
    (case a44 => k_is)
    (case l44 => k_is)
    (case c44 => k_is)
    (case k44 => k_is)
    (case a45 => k_is)
    (case l45 => k_is)
    (case c45 => k_is)
    (case k45 => k_is)
    (case a46 => k_is)
    (case l46 => k_is)
    (case c46 => k_is)
    (case k46 => k_is)
    (case a47 => k_is)
    (case l47 => k_is)
    (case c47 => k_is)
    (case k47 => k_is)
    (case a48 => k_is)
    (case l48 => k_is)
    (case c48 => k_is)
    (case k48 => k_is)
    (case a49 => k_is)
    (case l49 => k_is)
    (case c49 => k_is)
    (case k49 => k_is)
    (case a50 => k_is)
    (case l50 => k_is)
    (case c50 => k_is)
    (case k50 => k_is)
    (case a51 => k_is)
    (case l51 => k_is)
    (case c51 => k_is)
    (case k51 => k_is)
    (case a52 => k_is)
    (case l52 => k_is)
    (case c52 => k_is)
    (case k52 => k_is)
    (case a53 => k_is)
    (case l53 => k_is)
    (case c53 => k_is)
    (case k53 => k_is)
    (case a54 => k_is)
    (case l54 => k_is)
    (case c54 => k_is)
    (case k54 => k_is)
    (case a55 => k_is)
    (case l55 => k_is)
    (case c55 => k_is)
    (case k55 => k_is)
    (case a56 => k_is)
    (case l56 => k_is)
    (case c56 => k_is)
    (case k56 => k_is)
    (case a57 => k_is)
    (case l57 => k_is)
    (case c57 => k_is)
    (case k57 => k_is)
    (case a58 => k_is)
    (case l58 => k_is)
    (case c58 => k_is)
    (case k58 => k_is)
    (case a59 => k_is)
    (case l59 => k_is)
    (case c59 => k_is)
    (case k59 => k_is)
    (case a60 => k_is)
    (case l60 => k_is)
    (case c60 => k_is)
    (case k60 => k_is)
    (case a61 => k_is)
    (case l61 => k_is)
    (case c61 => k_is)
    (case k61 => k_is)
    (case a62 => k_is)
    (case l62 => k_is)
    (case c62 => k_is)
    (case k62 => k_is)
    (case a63 => k_is)
    (case i63 => k_is)
    (case m63 => k_is)
    (case l63 => k_is)
    (case c63 => k_is)
    (case k63 => k_is)
    (case x63 => k_is)
    (case y63 => k_is)
    (case a64 => k_is)
    (case i64 => k_is)
    (case m64 => k_is)
    (case l64 => k_is)
    (case c64 => k_is)
    (case k64 => k_is)
    (case a65 => k_is)
    (case i65 => k_is)
    (case m65 => k_is)
    (case l65 => k_is)
    (case c65 => k_is)
    (case k65 => k_is)
    (case a66 => k_is)
    (case l66 => k_is)
    (case c66 => k_is)
    (case k66 => k_is)
    (case a67 => k_is)
    (case i67 => k_is)
    (case m67 => k_is)
    (case l67 => k_is)
    (case c67 => k_is)
    (case k67 => k_is)
    (case x67 => k_is)
    (case y67 => k_is)
    (case a68 => k_is)
    (case i68 => k_is)
    (case m68 => k_is)
    (case l68 => k_is)
    (case c68 => k_is)
    (case k68 => k_is)
    (case a69 => k_is)
    (case i69 => k_is)
    (case m69 => k_is)
    (case l69 => k_is)
    (case c69 => k_is)
    (case k69 => k_is)
    (case a70 => k_is)
    (case i70 => k_is)
    (case m70 => k_is)
    (case l70 => k_is)
    (case c70 => k_is)
    (case k70 => k_is)
    (case a71 => k_is)
    (case l71 => k_is)
    (case c71 => k_is)
    (case k71 => k_is)
    (case a72 => k_is)
    (case i72 => k_is)
    (case m72 => k_is)
    (case l72 => k_is)
    (case c72 => k_is)
    (case k72 => k_is)
    (case x72 => k_is)
    (case y72 => k_is)
    (case a73 => k_is)
    (case i73 => k_is)
    (case m73 => k_is)
    (case l73 => k_is)
    (case c73 => k_is)
    (case k73 => k_is)
    (case a74 => k_is)
    (case i74 => k_is)
    (case m74 => k_is)
    (case l74 => k_is)
    (case c74 => k_is)
    (case k74 => k_is)
    (case a75 => k_is)
    (case i75 => k_is)
    (case m75 => k_is)
    (case l75 => k_is)
    (case c75 => k_is)
    (case k75 => k_is)
    (case a76 => k_is)
    (case i76 => k_is)
    (case m76 => k_is)
    (case l76 => k_is)
    (case c76 => k_is)
    (case k76 => k_is)
    (case a77 => k_is)
    (case l77 => k_is)
    (case c77 => k_is)
    (case k77 => k_is)
    (case a78 => k_is)
    (case l78 => k_is)
    (case c78 => k_is)
    (case k78 => k_is)
    (case a79 => k_is)
    (case l79 => k_is)
    (case c79 => k_is)
    (case k79 => k_is)
    (case a80 => k_is)
    (case l80 => k_is)
    (case c80 => k_is)
    (case k80 => k_is)
    (case a81 => k_is)
    (case l81 => k_is)
    (case c81 => k_is)
    (case k81 => k_is)
    (case a82 => k_is)
    (case l82 => k_is)
    (case c82 => k_is)
    (case k82 => k_is)
    (case a83 => k_is)
    (case l83 => k_is)
    (case c83 => k_is)
    (case k83 => k_is)
    (case a84 => k_is)
    (case l84 => k_is)
    (case c84 => k_is)
    (case k84 => k_is)
    (case a85 => k_is)
    (case l85 => k_is)
    (case c85 => k_is)
    (case k85 => k_is)
    (case a86 => k_is)
    (case l86 => k_is)
    (case c86 => k_is)
    (case k86 => k_is)
    (case a87 => k_is)
    (case l87 => k_is)
    (case c87 => k_is)
    (case k87 => k_is)
    (case a88 => k_is)
    (case l88 => k_is)
    (case c88 => k_is)
    (case k88 => k_is)
    (case a89 => k_is)
    (case l89 => k_is)
    (case c89 => k_is)
    (case k89 => k_is)
    (case a90 => k_is)
    (case l90 => k_is)
    (case c90 => k_is)
    (case k90 => k_is)
    (case a91 => k_is)
    (case l91 => k_is)
    (case c91 => k_is)
    (case k91 => k_is)
    (case a92 => k_is)
    (case l92 => k_is)
    (case c92 => k_is)
    (case k92 => k_is)
    (case a93 => k_is)
    (case l93 => k_is)
    (case c93 => k_is)
    (case k93 => k_is)
    (case z94 => k_is)
    (case z95 => k_is)
    (case z96 => k_is)
    (case z97 => k_is)
    (case z98 => k_is)
    (case z99 => k_is)
    (case z100 => k_is)
    (case z101 => k_is)
    (case z102 => k_is)
    (case z103 => k_is)
    (case z104 => k_is)
    (case z105 => k_is)
    (case z106 => k_is)
    (case z107 => k_is)
    (case z108 => k_is)
    (case z109 => k_is)
    (case z110 => k_is)
    (case t111 => k_is)
    (case u111 => k_is)
    (case v111 => exact ⟨_, _, rfl, rfl, by decide, (.cons ⟨_, rfl⟩ (.cons ⟨_, rfl⟩ (.cons ⟨_, rfl⟩ (.cons ⟨_, rfl⟩ .nil))))⟩)
    (case z112 => k_is)
    (case e112 => exact ⟨_, rfl⟩)
    (case z113 => k_is)
    (case e113 => exact ⟨_, rfl⟩)
    (case z114 => k_is)
    (case e114 => exact ⟨_, rfl⟩)
    (case z115 => k_is)
    (case e115 => exact ⟨_, rfl⟩)
    (case z116 => k_is)
    (case e116 => exact ⟨_, rfl⟩)
    (case z117 => k_is)
    (case e117 => exact ⟨_, rfl⟩)
    (case z118 => k_is)
    (case e118 => exact ⟨_, rfl⟩)
    (case z119 => k_is)
    (case e119 => exact ⟨_, rfl⟩)
    (case z120 => k_is)
    (case e120 => exact ⟨_, rfl⟩)
    (case z121 => k_is)
    (case e121 => exact ⟨_, rfl⟩)
    (case z122 => k_is)
    (case e122 => exact ⟨_, rfl⟩)
    (case z123 => k_is)
    (case e123 => exact ⟨_, rfl⟩)
    (case z124 => k_is)
    (case e124 => exact ⟨_, rfl⟩)
    (case z125 => k_is)
    (case e125 => exact ⟨_, rfl⟩)
    (case z126 => k_is)
    (case e126 => exact ⟨_, rfl⟩)
    (case z127 => k_is)
    (case e127 => exact ⟨_, rfl⟩)
    (case z128 => k_is)
    (case e128 => exact ⟨_, rfl⟩)
    (case z129 => k_is)
    (case e129 => exact ⟨_, rfl⟩)
    (case z130 => k_is)
    (case e130 => exact ⟨_, rfl⟩)
    (case z131 => k_is)
    (case e131 => exact ⟨_, rfl⟩)
    (case z132 => k_is)
    (case e132 => exact ⟨_, rfl⟩)
    (case a133 => k_is)
    (case e133 => k_exc)
    (case k133 => k_is)
    (case s133 => k_is)
    (case t133 => k_is)
    (case a134 => k_is)
    (case e134 => k_exc)
    (case k134 => k_is)
    (case s134 => k_is)
    (case t134 => k_is)
    (case a135 => k_is)
    (case e135 => k_exc)
    (case k135 => k_is)
    (case s135 => k_is)
    (case t135 => k_is)
    (case a136 => k_is)
    (case e136 => k_exc)
    (case k136 => k_is)
    (case s136 => k_is)
    (case t136 => k_is)
    (case a137 => k_is)
    (case e137 => k_exc)
    (case k137 => k_is)
    (case s137 => k_is)
    (case t137 => k_is)
    (case a138 => k_is)
    (case e138 => k_exc)
    (case k138 => k_is)
    (case s138 => k_is)
    (case t138 => k_is)
    (case a139 => k_is)
    (case e139 => k_exc)
    (case k139 => k_is)
    (case s139 => k_is)
    (case t139 => k_is)
    (case a140 => k_is)
    (case b140 => k_is)
    (case c140 => k_is)
    (case d140 => k_is)
    (case e140 => k_is)
    (case f140 => k_is)
    (case g140 => k_is)
    (case h140 => k_is)
    (case i140 => k_is)
    (case j140 => k_is)
    (case k140 => k_is)
    (case l140 => k_is)
    (case m140 => k_is)
    (case n140 => k_is)
