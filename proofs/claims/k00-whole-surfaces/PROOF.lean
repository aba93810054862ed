import PyProof.Rows.All
import Wide.All
import OpenK.AllK
import Wide.FinOn
import HandS.ForMost
import HandS.ForExc
import HandS.TupAny
import HandS.TupMul
import KE.DataEq
import KE.DataCmp
import KE.SortData
import HandS.Conv
import HandS.Zip
import HandS.Style
import HandS.WordsExc
import KE.DataIsa
import HandS.Ends
import HandS.Defaults
import HandS.Head0
import HandS.Head1
import HandS.Head2
import HandS.HeadEnd
import HandS.HeadHook1
import HandS.HeadHook2
import PySem.Challenge.RW_surfacestell_k00_whole_surfaces
set_option Elab.async false
set_option linter.all false
set_option maxRecDepth 100000
/-! Pu1: the pure layer: data, slots, states, steps. -/
namespace Pu
open PySem L2

abbrev D := PyData

/-- a value that an expression gives: shared for good, or a list just made -/
inductive RV where
  | fz (d : D)
  | fr (xs : List D)
def RV.d : RV → D
  | .fz d => d
  | .fr xs => .list xs
/-- what a name holds: a value that stays, a list of one's own, a list of the caller's that may be changed -/
inductive Sl where
  | frz (d : D)
  | own (xs : List D)
  | io (xs : List D)
def Sl.d : Sl → D
  | .frz d => d
  | .own xs => .list xs
  | .io xs => .list xs
def Sl.mu : Sl → Bool
  | .frz _ => false
  | .own _ => true
  | .io _ => true
abbrev Ev := List (Option Sl)
structure Exn where
  cls : Str
  val : Option Int
inductive Res (α : Type) where
  | ok (a : α) (ρ : Ev)
  | exc (x : Exn) (ρ : Ev)
  | bad
abbrev M (α : Type) := Ev → Res α
def Res.bind {α β : Type} (r : Res α) (f : α → M β) : Res β := match r with
  | .ok a ρ => f a ρ
  | .exc x ρ => .exc x ρ
  | .bad => .bad

/-! ### how data lie in the heap -/
mutual
inductive Rp (K : PySem.W.Frag) (F : Hp) : V → D → Prop
  | non : Rp K F .non .none
  | bl (b : Bool) : Rp K F (.bl b) (.bool b)
  | int (i : Int) : Rp K F (.int i) (.int i)
  | str (x : Str) : Rp K F (.str x) (.str x)
  | lst {a : Addr} {xs : List V} {ds : List D} : Rd F a (.lst xs) → RpAll K F xs ds → Rp K F (.ref a) (.list ds)
  | tup {a : Addr} {xs : List V} {ds : List D} : SqT K F a xs → RpAll K F xs ds → Rp K F (.ref a) (.tuple ds)
inductive RpAll (K : PySem.W.Frag) (F : Hp) : List V → List D → Prop
  | nil : RpAll K F [] []
  | cons {v : V} {vs : List V} {d : D} {ds : List D} : Rp K F v d → RpAll K F vs ds → RpAll K F (v :: vs) (d :: ds)
end
def Sub (F H : Hp) : Prop := ∀ a o, F a = some o → H a = some o
theorem Sub.refl (F : Hp) : Sub F F := fun _ _ h => h
theorem Sub.trans {F G H : Hp} (a : Sub F G) (b : Sub G H) : Sub F H := fun x o h => b x o (a x o h)
theorem Sub.rd {F H : Hp} {a : Addr} {u : HO} (s : Sub F H) (h : Rd F a u) : Rd H a u := by
  rcases h with h | ⟨o, h⟩
  · exact .inl (s _ _ h)
  · exact .inr ⟨o, s _ _ h⟩
theorem Sub.sqT {K : PySem.W.Frag} {F H : Hp} {a : Addr} {xs : List V} (s : Sub F H) (h : SqT K F a xs) : SqT K H a xs := by
  rcases h with h | h
  · exact .inl (s.rd h)
  · exact .inr h
section
variable {K : PySem.W.Frag} {F G H : Hp}
mutual
theorem Rp.mono (s : Sub F G) : ∀ (d : D) (v : V), Rp K F v d → Rp K G v d
  | .none, _, h => by cases h; exact .non
  | .bool _, _, h => by cases h; exact .bl _
  | .int _, _, h => by cases h; exact .int _
  | .str _, _, h => by cases h; exact .str _
  | .list ds, _, h => by
    cases h with
    | lst a b => exact .lst (s.rd a) (RpAll.mono s ds _ b)
  | .tuple ds, _, h => by
    cases h with
    | tup a b => exact .tup (s.sqT a) (RpAll.mono s ds _ b)
  | .dict _, _, h => by cases h
theorem RpAll.mono (s : Sub F G) : ∀ (ds : List D) (vs : List V), RpAll K F vs ds → RpAll K G vs ds
  | [], _, h => by cases h; exact .nil
  | d :: ds, _, h => by
    cases h with
    | cons a b => exact .cons (Rp.mono s d _ a) (RpAll.mono s ds _ b)
end
mutual
theorem Rp.dp : ∀ (d : D) (v : V), Rp K F v d → Dp K F v d
  | .none, _, h => by cases h; exact .non
  | .bool _, _, h => by cases h; exact .bl _
  | .int _, _, h => by cases h; exact .int _
  | .str _, _, h => by cases h; exact .str _
  | .list ds, _, h => by
    cases h with
    | lst a b => exact .lst (.inl a) (RpAll.dp ds _ b)
  | .tuple ds, _, h => by
    cases h with
    | tup a b => exact .tup a (RpAll.dp ds _ b)
  | .dict _, _, h => by cases h
theorem RpAll.dp : ∀ (ds : List D) (vs : List V), RpAll K F vs ds → DpAll K F vs ds
  | [], _, h => by cases h; exact .nil
  | d :: ds, _, h => by
    cases h with
    | cons a b => exact .cons (Rp.dp d _ a) (RpAll.dp ds _ b)
end
theorem RpAll.length : ∀ {ds : List D} {vs : List V}, RpAll K F vs ds → vs.length = ds.length
  | [], _, h => by cases h; rfl
  | d :: ds, _, h => by
    cases h with
    | cons a b => simp only [List.length_cons, RpAll.length b]
theorem RpAll.append : ∀ {ds : List D} {vs : List V} {es : List D} {us : List V}, RpAll K F vs ds → RpAll K F us es → RpAll K F (vs ++ us) (ds ++ es)
  | [], _, _, _, h, g => by cases h; exact g
  | d :: ds, _, _, _, h, g => by
    cases h with
    | cons a b => exact .cons a (RpAll.append b g)
theorem RpAll.get : ∀ {ds : List D} {vs : List V} {i : Nat} {d : D}, RpAll K F vs ds → ds[i]? = some d → ∃ v, vs[i]? = some v ∧ Rp K F v d
  | [], _, _, _, h, e => by simp at e
  | d :: ds, _, 0, _, h, e => by
    cases h with
    | cons a b => simp at e; subst e; exact ⟨_, rfl, a⟩
  | d :: ds, _, i + 1, _, h, e => by
    cases h with
    | cons a b =>
      obtain ⟨v, h1, h2⟩ := RpAll.get (i := i) b (by simpa using e)
      exact ⟨v, by simpa using h1, h2⟩
theorem RpAll.take : ∀ {ds : List D} {vs : List V} (n : Nat), RpAll K F vs ds → RpAll K F (vs.take n) (ds.take n)
  | _, _, 0, _ => by simp; exact .nil
  | [], _, n + 1, h => by cases h; exact .nil
  | d :: ds, _, n + 1, h => by
    cases h with
    | cons a b => exact .cons a (RpAll.take n b)
theorem RpAll.drop : ∀ {ds : List D} {vs : List V} (n : Nat), RpAll K F vs ds → RpAll K F (vs.drop n) (ds.drop n)
  | _, _, 0, h => by simpa using h
  | [], _, n + 1, h => by cases h; exact .nil
  | d :: ds, _, n + 1, h => by
    cases h with
    | cons a b => exact RpAll.drop n b
theorem RpAll.set {d : D} {v : V} (r : Rp K F v d) : ∀ {ds : List D} {vs : List V} (i : Nat), RpAll K F vs ds → RpAll K F (vs.set i v) (ds.set i d)
  | [], _, _, h => by cases h; exact .nil
  | _ :: _, _, 0, h => by
    cases h with
    | cons a b => exact .cons r b
  | _ :: _, _, i + 1, h => by
    cases h with
    | cons a b => exact .cons a (RpAll.set r i b)
theorem RpAll.ints : ∀ ns : List Int, RpAll K F (ns.map V.int) (ns.map PyData.int)
  | [] => .nil
  | n :: r => .cons (.int n) (RpAll.ints r)
end

/-! ### states and steps -/
def Mu (ρ : Ev) (σ : L2.St) (a : Addr) : Prop := ∃ (i : Nat) (s : Sl), ρ[i]? = some (some s) ∧ s.mu = true ∧ σ[i]? = some (some (V.ref a))
def SlOk (K : PySem.W.Frag) (F H : Hp) (v : V) : Sl → Prop
  | .frz d => Rp K F v d
  | .own xs => ∃ a vs, v = .ref a ∧ H a = some (.lst vs) ∧ F a = none ∧ RpAll K F vs xs
  | .io xs => ∃ a vs, v = .ref a ∧ H a = some (.lst vs) ∧ F a = none ∧ RpAll K F vs xs
structure St (K : PySem.W.Frag) (F : Hp) (ρ : Ev) (σ : L2.St) (H : Hp) : Prop where
  len : ρ.length = σ.length
  le : Sub F H
  slot : ∀ (i : Nat) (s : Sl), ρ[i]? = some (some s) → ∃ v, σ[i]? = some (some v) ∧ SlOk K F H v s
  inj : ∀ (i j : Nat) (s t : Sl) (a : Addr), ρ[i]? = some (some s) → ρ[j]? = some (some t) → s.mu = true → t.mu = true → σ[i]? = some (some (.ref a)) → σ[j]? = some (some (.ref a)) → i = j
theorem SlOk.mut {K : PySem.W.Frag} {F H : Hp} {v : V} {s : Sl} (h : SlOk K F H v s) (m : s.mu = true) : ∃ a vs xs, v = .ref a ∧ s.d = .list xs ∧ H a = some (.lst vs) ∧ F a = none ∧ RpAll K F vs xs := by
  cases s with
  | frz d => cases m
  | own xs =>
    obtain ⟨a, vs, h1, h2, h3, h4⟩ := h
    exact ⟨a, vs, xs, h1, rfl, h2, h3, h4⟩
  | io xs =>
    obtain ⟨a, vs, h1, h2, h3, h4⟩ := h
    exact ⟨a, vs, xs, h1, rfl, h2, h3, h4⟩
theorem St.mu_some {K : PySem.W.Frag} {F : Hp} {ρ : Ev} {σ : L2.St} {H : Hp} (S : St K F ρ σ H) {a : Addr} (m : Mu ρ σ a) : (∃ vs, H a = some (.lst vs)) ∧ F a = none := by
  obtain ⟨i, s, h1, h2, h3⟩ := m
  obtain ⟨v, e, ok⟩ := S.slot i s h1
  rw [h3] at e
  cases e
  obtain ⟨b, vs, xs, hb, _, hH, hF, _⟩ := ok.mut h2
  cases hb
  exact ⟨⟨vs, hH⟩, hF⟩
/-- how a slot may change in an expression -/
def SlLe : Option Sl → Option Sl → Prop
  | some (.io _), t => ∃ ys, t = some (.io ys)
  | some (.own _), t => (∃ ys, t = some (.own ys)) ∨ ∃ d, t = some (.frz d)
  | some (.frz d), t => t = some (.frz d)
  | none, t => t = none
theorem SlLe.refl : ∀ s : Option Sl, SlLe s s
  | some (.io _) => ⟨_, rfl⟩
  | some (.own _) => .inl ⟨_, rfl⟩
  | some (.frz _) => rfl
  | none => rfl
theorem SlLe.trans {a b c : Option Sl} (h : SlLe a b) (g : SlLe b c) : SlLe a c := by
  cases a with
  | none => cases (show b = none from h); exact g
  | some s =>
    cases s with
    | frz d => cases (show b = some (.frz d) from h); exact g
    | io xs =>
      obtain ⟨ys, rfl⟩ := (show ∃ ys, b = some (.io ys) from h)
      exact g
    | own xs =>
      rcases (show (∃ ys, b = some (.own ys)) ∨ ∃ d, b = some (.frz d) from h) with ⟨ys, rfl⟩ | ⟨d, rfl⟩
      · exact g
      · exact .inr ⟨d, g⟩
theorem SlLe.mu {s : Option Sl} {t : Sl} (h : SlLe s (some t)) (m : t.mu = true) : ∃ s', s = some s' ∧ s'.mu = true := by
  cases s with
  | none => cases (show some t = none from h)
  | some s =>
    cases s with
    | frz d =>
      cases (show some t = some (.frz d) from h)
      cases m
    | io xs => exact ⟨_, rfl, rfl⟩
    | own xs => exact ⟨_, rfl, rfl⟩
structure StpE (K : PySem.W.Frag) (F : Hp) (ρ : Ev) (σ : L2.St) (H : Hp) (F' : Hp) (ρ' : Ev) (H' : Hp) : Prop where
  st : St K F' ρ' σ H'
  le : Sub F F'
  keep : ∀ b o, H b = some o → ¬ Mu ρ σ b → H' b = some o
  dom : ∀ b, H' b = none → H b = none
  new : ∀ b o, F' b = some o → F b = some o ∨ H b = none ∨ Mu ρ σ b
  sl : ∀ i : Nat, SlLe (ρ[i]?.join) (ρ'[i]?.join)
section
variable {K : PySem.W.Frag} {F F1 F2 H H1 H2 : Hp} {ρ ρ1 ρ2 : Ev} {σ : L2.St}
theorem join_some {l : Ev} {i : Nat} {s : Sl} : (l[i]?).join = some s ↔ l[i]? = some (some s) := by
  cases h : l[i]? with
  | none => simp
  | some x => cases x <;> simp
theorem StpE.mu (p : StpE K F ρ σ H F1 ρ1 H1) {b : Addr} (m : Mu ρ1 σ b) : Mu ρ σ b := by
  obtain ⟨i, s, h1, h2, h3⟩ := m
  have q := p.sl i
  rw [join_some.mpr h1] at q
  obtain ⟨s', e, m'⟩ := q.mu h2
  exact ⟨i, s', join_some.mp e, m', h3⟩
theorem StpE.refl (S : St K F ρ σ H) : StpE K F ρ σ H F ρ H := ⟨S, Sub.refl _, fun _ _ h _ => h, fun _ h => h, fun _ _ h => .inl h, fun _ => SlLe.refl _⟩
theorem StpE.trans (S : St K F ρ σ H) (p : StpE K F ρ σ H F1 ρ1 H1) (q : StpE K F1 ρ1 σ H1 F2 ρ2 H2) : StpE K F ρ σ H F2 ρ2 H2 := by
  refine ⟨q.st, p.le.trans q.le, fun b o h n => q.keep b o (p.keep b o h n) fun m => n (p.mu m), fun b h => p.dom b (q.dom b h), fun b o h => ?_, fun i => (p.sl i).trans (q.sl i)⟩
  rcases q.new b o h with h | h | h
  · exact p.new b o h
  · exact .inr (.inl (p.dom b h))
  · exact .inr (.inr (p.mu h))
end
/-- the value of an expression that began at H and ended at F', H' -/
def RVok (K : PySem.W.Frag) (F' H H' : Hp) (v : V) : RV → Prop
  | .fz d => Rp K F' v d
  | .fr xs => ∃ a vs, v = .ref a ∧ H a = none ∧ H' a = some (.lst vs) ∧ F' a = none ∧ RpAll K F' vs xs
/-- an operand: a value, or a name's slot, read when it is asked -/
inductive Hd where
  | v (r : RV)
  | s (i : Nat)
def HdOk (K : PySem.W.Frag) (F' : Hp) (ρ' : Ev) (σ : L2.St) (H H' : Hp) (v : V) : Hd → Prop
  | .v r => RVok K F' H H' v r
  | .s i => σ[i]? = some (some v) ∧ ∃ s, ρ'[i]? = some (some s)
def rd : Hd → Ev → Option D
  | .v r, _ => some r.d
  | .s i, ρ => (ρ[i]?.join).map Sl.d
/-- a datum as it can be read now -/
def Pk (K : PySem.W.Frag) (F H : Hp) (v : V) (d : D) : Prop := Rp K F v d ∨ ∃ a vs xs, v = .ref a ∧ d = .list xs ∧ H a = some (.lst vs) ∧ RpAll K F vs xs
section
variable {K : PySem.W.Frag} {F F1 F2 F' H H0 H1 H2 H' : Hp} {ρ ρ1 ρ2 ρ' : Ev} {σ : L2.St} {v : V}
theorem RVok.carry (S : St K F ρ σ H0) {r : RV} (p : StpE K F ρ σ H0 F1 ρ1 H1) (q : StpE K F1 ρ1 σ H1 F2 ρ2 H2) (h : RVok K F1 H0 H1 v r) : RVok K F2 H0 H2 v r := by
  cases r with
  | fz d => exact Rp.mono q.le _ _ h
  | fr xs =>
    obtain ⟨a, vs, e, h0, h1, hF, hr⟩ := h
    have nm : ¬ Mu ρ1 σ a := fun m => by
      obtain ⟨⟨us, e'⟩, _⟩ := S.mu_some (p.mu m)
      rw [h0] at e'
      cases e'
    refine ⟨a, vs, e, h0, q.keep a _ h1 nm, ?_, RpAll.mono q.le _ _ hr⟩
    cases e2 : F2 a with
    | none => rfl
    | some o =>
      rcases q.new a o e2 with z | z | z
      · rw [hF] at z; cases z
      · rw [h1] at z; cases z
      · exact absurd z nm
theorem HdOk.carry (S : St K F ρ σ H0) {h : Hd} (p : StpE K F ρ σ H0 F1 ρ1 H1) (q : StpE K F1 ρ1 σ H1 F2 ρ2 H2) (hh : HdOk K F1 ρ1 σ H0 H1 v h) : HdOk K F2 ρ2 σ H0 H2 v h := by
  cases h with
  | v r => exact RVok.carry S p q hh
  | s i =>
    obtain ⟨e, s, hs⟩ := hh
    refine ⟨e, ?_⟩
    have z := q.sl i
    rw [join_some.mpr hs] at z
    cases s with
    | frz d => exact ⟨_, join_some.mp z⟩
    | own xs =>
      rcases z with ⟨ys, z⟩ | ⟨d, z⟩
      · exact ⟨_, join_some.mp z⟩
      · exact ⟨_, join_some.mp z⟩
    | io xs =>
      obtain ⟨ys, z⟩ := z
      exact ⟨_, join_some.mp z⟩
theorem RVok.start (h : RVok K F' H1 H' v r) (d : ∀ b, H1 b = none → H b = none) : RVok K F' H H' v r := by
  cases r with
  | fz d => exact h
  | fr xs =>
    obtain ⟨a, vs, e, h0, h1, hF, hr⟩ := h
    exact ⟨a, vs, e, d _ h0, h1, hF, hr⟩
theorem HdOk.start {h : Hd} (hh : HdOk K F' ρ' σ H1 H' v h) (d : ∀ b, H1 b = none → H b = none) : HdOk K F' ρ' σ H H' v h := by
  cases h with
  | v r => exact RVok.start hh d
  | s i => exact hh
theorem HdOk.pk (S : St K F' ρ' σ H') {h : Hd} {d : D} (hh : HdOk K F' ρ' σ H H' v h) (e : rd h ρ' = some d) : Pk K F' H' v d := by
  cases h with
  | v r =>
    cases e
    cases r with
    | fz d => exact .inl hh
    | fr xs =>
      obtain ⟨a, vs, e, h0, h1, hF, hr⟩ := hh
      exact .inr ⟨a, vs, xs, e, rfl, h1, hr⟩
  | s i =>
    obtain ⟨ev, s, hs⟩ := hh
    obtain ⟨v', ev', ok⟩ := S.slot i s hs
    rw [ev] at ev'
    cases ev'
    have e' : (ρ'[i]?.join).map Sl.d = some d := e
    rw [join_some.mpr hs] at e'
    cases e'
    cases s with
    | frz d => exact .inl ok
    | own xs =>
      obtain ⟨a, vs, h1, h2, h3, h4⟩ := ok
      exact .inr ⟨a, vs, xs, h1, rfl, h2, h4⟩
    | io xs =>
      obtain ⟨a, vs, h1, h2, h3, h4⟩ := ok
      exact .inr ⟨a, vs, xs, h1, rfl, h2, h4⟩
theorem Pk.rpH {d : D} (h : Pk K F H v d) (s : Sub F H) : Rp K H v d := by
  rcases h with h | ⟨a, vs, xs, rfl, rfl, hH, hr⟩
  · exact Rp.mono s _ _ h
  · exact .lst (.inl hH) (RpAll.mono s _ _ hr)
theorem Pk.lst {xs : List D} (h : Pk K F H v (.list xs)) (s : Sub F H) : ∃ a vs, v = .ref a ∧ Rd H a (.lst vs) ∧ RpAll K F vs xs := by
  rcases h with h | ⟨a, vs, xs, rfl, e, hH, hr⟩
  · cases h with
    | lst q r => exact ⟨_, _, rfl, s.rd q, r⟩
  · cases e
    exact ⟨a, vs, rfl, .inl hH, hr⟩
theorem Pk.tup {xs : List D} (h : Pk K F H v (.tuple xs)) : ∃ a vs, v = .ref a ∧ SqT K F a vs ∧ RpAll K F vs xs := by
  rcases h with h | ⟨a, vs, xs, rfl, e, hH, hr⟩
  · cases h with
    | tup q r => exact ⟨_, _, rfl, q, r⟩
  · cases e
theorem Pk.int {i : Int} (h : Pk K F H v (.int i)) : v = .int i := by
  rcases h with h | ⟨a, vs, xs, rfl, e, hH, hr⟩
  · cases h; rfl
  · cases e
theorem Pk.bl {i : Bool} (h : Pk K F H v (.bool i)) : v = .bl i := by
  rcases h with h | ⟨a, vs, xs, rfl, e, hH, hr⟩
  · cases h; rfl
  · cases e
theorem Pk.str {i : Str} (h : Pk K F H v (.str i)) : v = .str i := by
  rcases h with h | ⟨a, vs, xs, rfl, e, hH, hr⟩
  · cases h; rfl
  · cases e
theorem Pk.non (h : Pk K F H v .none) : v = .non := by
  rcases h with h | ⟨a, vs, xs, rfl, e, hH, hr⟩
  · cases h; rfl
  · cases e
end

/-! ### what an operation on values makes -/
structure Mk (K : PySem.W.Frag) (F H : Hp) (v : V) (F' H' : Hp) (r : RV) : Prop where
  same : Sub H H'
  le : Sub F F'
  fle : Sub F' H'
  new : ∀ b o, F' b = some o → F b = some o ∨ H b = none
  rv : RVok K F' H H' v r
section
variable {K : PySem.W.Frag} {F H F' H' : Hp} {ρ : Ev} {σ : L2.St} {v : V} {r : RV}
theorem Mk.val {d : D} (s : Sub F H) (h : Rp K F v d) : Mk K F H v F H (.fz d) := ⟨Sub.refl _, Sub.refl _, s, fun _ _ h => .inl h, h⟩
theorem sub_upd {G : Hp} {a : Addr} {o : HO} (h : G a = none) : Sub G (upd G a o) := fun b u e => by
  rw [upd_ne (ne_of_none e h)]
  exact e
theorem Mk.lst {a : Addr} {vs : List V} {xs : List D} (s : Sub F H) (hn : H a = none) (h : RpAll K F vs xs) : Mk K F H (.ref a) F (upd H a (.lst vs)) (.fr xs) := by
  have hF : F a = none := by
    cases e : F a with
    | none => rfl
    | some o => rw [s _ _ e] at hn; cases hn
  exact ⟨sub_upd hn, Sub.refl _, s.trans (sub_upd hn), fun _ _ h => .inl h, a, vs, rfl, hn, upd_same, hF, h⟩
theorem sub_upd2 {F H : Hp} {a : Addr} {o : HO} (s : Sub F H) : Sub (upd F a o) (upd H a o) := fun b u e => by
  by_cases h : b = a
  · subst h; rw [upd_same] at e ⊢; exact e
  · rw [upd_ne h] at e ⊢; exact s _ _ e
theorem none_sub {F H : Hp} {a : Addr} (s : Sub F H) (h : H a = none) : F a = none := by
  cases e : F a with
  | none => rfl
  | some o => rw [s _ _ e] at h; cases h
theorem Mk.tup {a : Addr} {vs : List V} {xs : List D} (s : Sub F H) (hn : H a = none) (h : RpAll K F vs xs) : Mk K F H (.ref a) (upd F a (.tup vs)) (upd H a (.tup vs)) (.fz (.tuple xs)) := by
  have hF : F a = none := none_sub s hn
  refine ⟨sub_upd hn, sub_upd hF, sub_upd2 s, fun b o e => ?_, .tup (.inl (.inl upd_same)) (RpAll.mono (sub_upd hF) _ _ h)⟩
  by_cases hb : b = a
  · subst hb; exact .inr hn
  · rw [upd_ne hb] at e; exact .inl e
theorem St.made (S : St K F ρ σ H) (m : Mk K F H v F' H' r) : StpE K F ρ σ H F' ρ H' := by
  have keepM : ∀ {a : Addr} {vs : List V}, H a = some (.lst vs) → F a = none → F' a = none := fun {a vs} h1 h2 => by
    cases e : F' a with
    | none => rfl
    | some o =>
      rcases m.new a o e with z | z
      · rw [h2] at z; cases z
      · rw [h1] at z; cases z
  refine ⟨⟨S.len, m.fle, fun i s h => ?_, S.inj⟩, m.le, fun b o h _ => m.same b o h, fun b h => none_sub m.same h, fun b o h => (m.new b o h).imp id .inl, fun _ => SlLe.refl _⟩
  obtain ⟨v', e, ok⟩ := S.slot i s h
  refine ⟨v', e, ?_⟩
  cases s with
  | frz d => exact Rp.mono m.le _ _ ok
  | own xs =>
    obtain ⟨a, vs, h1, h2, h3, h4⟩ := ok
    exact ⟨a, vs, h1, m.same _ _ h2, keepM h2 h3, RpAll.mono m.le _ _ h4⟩
  | io xs =>
    obtain ⟨a, vs, h1, h2, h3, h4⟩ := ok
    exact ⟨a, vs, h1, m.same _ _ h2, keepM h2 h3, RpAll.mono m.le _ _ h4⟩
end
end Pu
set_option Elab.async false
set_option linter.all false
set_option maxRecDepth 100000
/-! Pu2: the pure layer: readings of expressions. -/
namespace Pu
open PySem L2
/-- what is wished: the written part, how an error lies, what is wanted of it -/
structure Wi where
  K : PySem.W.Frag
  XR : Exn → Value → Option Addr → Hp → Prop
  W : L2.WX
def Wp {α : Type} (w : Wi) (F : Hp) (ρ : Ev) (σ : L2.St) (H : Hp) (r : Res α) (Q : α → Ev → Hp → Hp → Prop) : Prop := match r with
  | .ok a ρ' => ∀ F' H', StpE w.K F ρ σ H F' ρ' H' → Q a ρ' F' H'
  | .exc x ρ' => ∀ F' H' cls d, StpE w.K F ρ σ H F' ρ' H' → w.XR x cls d H' → w.W cls d σ H'
  | .bad => False
section
variable {w : Wi} {F : Hp} {ρ : Ev} {σ : L2.St} {H : Hp} {α β : Type}
theorem Wp.bind {r : Res α} {f : α → M β} {Q : β → Ev → Hp → Hp → Prop} (S : St w.K F ρ σ H) (h : Wp w F ρ σ H (r.bind f) Q) :
    Wp w F ρ σ H r fun a ρ1 F1 H1 => StpE w.K F ρ σ H F1 ρ1 H1 ∧ Wp w F1 ρ1 σ H1 (f a ρ1) Q := by
  cases r with
  | bad => exact h
  | exc x ρ1 => exact h
  | ok a ρ1 =>
    intro F1 H1 p
    refine ⟨p, ?_⟩
    have h : Wp w F ρ σ H (f a ρ1) Q := h
    cases e : f a ρ1 with
    | bad => rw [e] at h; exact h
    | exc x ρ2 =>
      rw [e] at h
      exact fun F2 H2 cls d q hx => h F2 H2 cls d (p.trans S q) hx
    | ok b ρ2 =>
      rw [e] at h
      exact fun F2 H2 q => h F2 H2 (p.trans S q)
theorem Wp.mono {r : Res α} {Q Q' : α → Ev → Hp → Hp → Prop} (h : Wp w F ρ σ H r Q) (i : ∀ a ρ1 F1 H1, Q a ρ1 F1 H1 → Q' a ρ1 F1 H1) : Wp w F ρ σ H r Q' := by
  cases r with
  | bad => exact h
  | exc x ρ1 => exact h
  | ok a ρ1 => exact fun F1 H1 p => i _ _ _ _ (h F1 H1 p)
theorem Wp.ok {a : α} {Q : α → Ev → Hp → Hp → Prop} (S : St w.K F ρ σ H) (h : Wp w F ρ σ H (.ok a ρ) Q) : Q a ρ F H := h F H (.refl S)
end
def tK (w : Wi) (m : M Hd) : TE := fun σ H Q => ∃ F ρ, St w.K F ρ σ H ∧ Wp w F ρ σ H (m ρ) fun h ρ' F' H' => ∀ v, HdOk w.K F' ρ' σ H H' v h → Q v H'
def tT (w : Wi) (m : M Hd) : TT := fun σ H Q => ∃ F ρ, St w.K F ρ σ H ∧ Wp w F ρ σ H (m ρ) fun h ρ' F' H' => ∃ b, rd h ρ' = some (.bool b) ∧ Q b H'
/-- a new list is none of the other new lists -/
def Apt (v : V) (h : Hd) (vs : List V) (hs : List Hd) : Prop := ∀ xs, h = .v (.fr xs) → ∀ u ys, (u, Hd.v (.fr ys)) ∈ vs.zip hs → u ≠ v
def HdsOk (K : PySem.W.Frag) (F' : Hp) (ρ' : Ev) (σ : L2.St) (H H' : Hp) : List V → List Hd → Prop
  | [], [] => True
  | v :: vs, h :: hs => HdOk K F' ρ' σ H H' v h ∧ HdsOk K F' ρ' σ H H' vs hs ∧ Apt v h vs hs
  | _, _ => False
theorem HdsOk.mem {K : PySem.W.Frag} {F' : Hp} {ρ' : Ev} {σ : L2.St} {H H' : Hp} {u : V} {h : Hd} : ∀ {vs : List V} {hs : List Hd}, HdsOk K F' ρ' σ H H' vs hs → (u, h) ∈ vs.zip hs → HdOk K F' ρ' σ H H' u h
  | [], [], _, m => by cases m
  | v :: vs, k :: hs, ⟨a, b, _⟩, m => by
    rcases List.mem_cons.mp m with e | m
    · cases e; exact a
    · exact HdsOk.mem b m
  | [], _ :: _, x, _ => x.elim
  | _ :: _, [], x, _ => x.elim
def tA (w : Wi) (m : M (List Hd)) : TA := fun σ H Q => ∃ F ρ, St w.K F ρ σ H ∧ Wp w F ρ σ H (m ρ) fun hs ρ' F' H' => ∀ vs, HdsOk w.K F' ρ' σ H H' vs hs → Q vs H'

theorem PEimp {X : Cx} {e : Expr} {t t' : TE} (h : PE X e t) (i : ∀ σ H Q, t' σ H Q → t σ H Q) : PE X e t' := ⟨fun pins s σ H Q I q => h.run pins s σ H Q I (i σ H Q q)⟩
theorem PTimp {X : Cx} {e : Expr} {t t' : TT} (h : PT X e t) (i : ∀ σ H Q, t' σ H Q → t σ H Q) : PT X e t' := ⟨fun pins s σ H Q I q => h.run pins s σ H Q I (i σ H Q q)⟩
theorem PWimp {X : Cx} {e : Expr} {t t' : TT} (h : PW X e t) (i : ∀ σ H Q, t' σ H Q → t σ H Q) : PW X e t' := ⟨fun wh pins s σ H Q I q => h.run wh pins s σ H Q I (i σ H Q q)⟩
theorem PAimp {X : Cx} {e : List Expr} {t t' : TA} (h : PA X e t) (i : ∀ σ H Q, t' σ H Q → t σ H Q) : PA X e t' := ⟨fun pos pins s σ H Q I q => h.run pos pins s σ H Q I (i σ H Q q)⟩
theorem PSimp {X : Cx} {e : Stmt} {t t' : TS} (h : PS X e t) (i : ∀ σ H Q, t' σ H Q → t σ H Q) : PS X e t' := ⟨fun pins s σ H Q I q => h.run pins s σ H Q I (i _ _ _ q)⟩
theorem PSsimp {X : Cx} {e : List Stmt} {t t' : TS} (h : PSs X e t) (i : ∀ σ H Q, t' σ H Q → t σ H Q) : PSs X e t' := ⟨fun pins s σ H Q I q => h.run pins s σ H Q I (i _ _ _ q)⟩

/-! ### the words -/
def mSlot (i : Nat) : M Hd := fun ρ => match ρ[i]?.join with
  | some _ => .ok (.s i) ρ
  | none => .bad
def mC (d : D) : M Hd := fun ρ => .ok (.v (.fz d)) ρ
/-- the value of an operand, from now on shared -/
def esc (h : Hd) : M Hd := fun ρ => match h with
  | .v r => .ok (.v (.fz r.d)) ρ
  | .s i => match ρ[i]?.join with
    | some (.frz d) => .ok (.v (.fz d)) ρ
    | some (.own xs) => .ok (.v (.fz (.list xs))) (ρ.set i (some (.frz (.list xs))))
    | some (.io _) => .bad
    | none => .bad
def mEsc (m : M Hd) : M Hd := fun ρ => (m ρ).bind esc
/-- an operand's value as it is given away: a new list may be kept by its taker -/
def esr (h : Hd) : M Hd := fun ρ => match h with
  | .v r => .ok (.v r) ρ
  | .s i => esc (.s i) ρ
def mEsr (m : M Hd) : M Hd := fun ρ => (m ρ).bind esr
def prim2 (f : D → D → Option RV) (h1 h2 : Hd) : M Hd := fun ρ => match rd h1 ρ, rd h2 ρ with
  | some d, some e => (match f d e with
    | some r => .ok (.v r) ρ
    | none => .bad)
  | _, _ => .bad
def mBin (f : D → D → Option RV) (a b : M Hd) : M Hd := fun ρ => (a ρ).bind fun h1 ρ1 => (b ρ1).bind fun h2 ρ2 => prim2 f h1 h2 ρ2
def prim1 (f : D → Option RV) (h : Hd) : M Hd := fun ρ => match rd h ρ with
  | some d => (match f d with
    | some r => .ok (.v r) ρ
    | none => .bad)
  | none => .bad
def mUn (f : D → Option RV) (a : M Hd) : M Hd := fun ρ => (a ρ).bind (prim1 f)
def mArgs : List (M Hd) → M (List Hd)
  | [] => fun ρ => .ok [] ρ
  | m :: ms => fun ρ => (m ρ).bind fun h ρ1 => (mArgs ms ρ1).bind fun hs ρ2 => .ok (h :: hs) ρ2
def rds : List Hd → Ev → Option (List D)
  | [], _ => some []
  | h :: hs, ρ => match rd h ρ, rds hs ρ with
    | some d, some ds => some (d :: ds)
    | _, _ => none
def primN (f : List D → Option RV) (hs : List Hd) : M Hd := fun ρ => match rds hs ρ with
  | some ds => (match f ds with
    | some r => .ok (.v r) ρ
    | none => .bad)
  | none => .bad
def mPrim (f : List D → Option RV) (ms : List (M Hd)) : M Hd := fun ρ => (mArgs ms ρ).bind (primN f)
def asB (h : Hd) (ρ : Ev) : Option Bool := match rd h ρ with
  | some (.bool b) => some b
  | _ => none
def mIf {α : Type} (c : M Hd) (a b : M α) : M α := fun ρ => (c ρ).bind fun h ρ1 => match asB h ρ1 with
  | some true => a ρ1
  | some false => b ρ1
  | none => .bad
def mAnd (a b : M Hd) : M Hd := mIf a b (mC (.bool false))
def mOr (a b : M Hd) : M Hd := mIf a (mC (.bool true)) b
def mNot (a : M Hd) : M Hd := mIf a (mC (.bool false)) (mC (.bool true))

theorem asB_some {h : Hd} {ρ : Ev} {b : Bool} (e : asB h ρ = some b) : rd h ρ = some (.bool b) := by
  unfold asB at e
  split at e
  · cases e; assumption
  · cases e
section
variable {w : Wi} {X : Cx}
theorem se_var {i : Nat} {x : Str} {pos : Pos} (hN : X.N[i]? = some x) (hv : Vis X.env.scope x) (hd : (x == ("__debug__" : Str)) = false) (hcd : (x == ("__classdict__" : Str)) = false) : PE X (.Name x pos) (tK w (mSlot i)) := by
  refine PEimp (pe_var hN hv hd hcd) fun σ H Q h => ?_
  obtain ⟨F, ρ, S, h⟩ := h
  unfold mSlot at h
  split at h
  · rename_i s e
    have e := join_some.mp e
    obtain ⟨v, ev, _⟩ := S.slot i s e
    exact ⟨v, ev, h.ok S v ⟨ev, s, e⟩⟩
  · exact h.elim
theorem tC_of {v : V} {d : D} {σ : L2.St} {H : Hp} {Q : VK} (r : ∀ F, Rp w.K F v d) (h : tK w (mC d) σ H Q) : Q v H := by
  obtain ⟨F, ρ, S, h⟩ := h
  exact h.ok S v (r F)
theorem se_int {i : Int} {j pos} : PE X (.Constant (.int i) j pos) (tK w (mC (.int i))) := PEimp pe_int fun _ _ _ h => tC_of (fun _ => .int i) h
theorem se_bl {b : Bool} {j pos} : PE X (.Constant (.bool b) j pos) (tK w (mC (.bool b))) := PEimp pe_bl fun _ _ _ h => tC_of (fun _ => .bl b) h
theorem se_non {j pos} : PE X (.Constant .none j pos) (tK w (mC .none)) := PEimp pe_non fun _ _ _ h => tC_of (fun _ => .non) h
theorem se_str {x : Str} {j pos} : PE X (.Constant (.str x) j pos) (tK w (mC (.str x))) := PEimp pe_str fun _ _ _ h => tC_of (fun _ => .str x) h
theorem se_glob {x : Str} {v : V} {d : D} {u : Value} {pos : Pos} (hg : Gl X x) (hm : X.mg x = some u) (r : RelV v u) (hd : (x == ("__debug__" : Str)) = false) (q : ∀ F, Rp w.K F v d) : PE X (.Name x pos) (tK w (mC d)) :=
  PEimp (pe_glob hg hm r hd) fun _ _ _ h => tC_of q h

/-! ### one behind another -/
theorem tK_in {ma : M Hd} {f : Hd → M Hd} {σ : L2.St} {H : Hp} {Q : VK} (h : tK w (fun ρ => (ma ρ).bind f) σ H Q) :
    tK w ma σ H fun x H1 => ∃ F ρ F1 ρ1 h1, St w.K F ρ σ H ∧ StpE w.K F ρ σ H F1 ρ1 H1 ∧ HdOk w.K F1 ρ1 σ H H1 x h1 ∧ Wp w F1 ρ1 σ H1 (f h1 ρ1) fun h ρ' F' H' => ∀ v, HdOk w.K F' ρ' σ H H' v h → Q v H' := by
  obtain ⟨F, ρ, S, h⟩ := h
  refine ⟨F, ρ, S, (h.bind S).mono fun h1 ρ1 F1 H1 ⟨p, q⟩ v hv => ⟨F, ρ, F1, ρ1, h1, S, p, hv, q⟩⟩
/-- from the end's readiness to a value's place -/
theorem Wp.prim {F F1 : Hp} {ρ ρ1 : Ev} {σ : L2.St} {H H1 : Hp} {Q : VK} {rv : RV} (S : St w.K F ρ σ H) (p : StpE w.K F ρ σ H F1 ρ1 H1)
    (h : Wp w F1 ρ1 σ H1 (.ok (.v rv) ρ1) fun h ρ' F' H' => ∀ v, HdOk w.K F' ρ' σ H H' v h → Q v H') {v : V} {F' H' : Hp} (m : Mk w.K F1 H1 v F' H' rv) : Q v H' :=
  h F' H' (p.st.made m) v (RVok.start m.rv p.dom)
def Op2 (K : PySem.W.Frag) (r : R2) (f : D → D → Option RV) : Prop := ∀ (F H : Hp) (x y : V) (d e : D) (rv : RV) (Q : VK), Sub F H → Pk K F H x d → Pk K F H y e → f d e = some rv →
  (∀ v F' H', Mk K F H v F' H' rv → Q v H') → r x y H Q
theorem op2_in {f : D → D → Option RV} {r : R2} {ma mb : M Hd} {σ : L2.St} {H : Hp} {Q : VK} (h2 : Op2 w.K r f) (h : tK w (mBin f ma mb) σ H Q) : tOp r (tK w ma) (tK w mb) σ H Q := by
  obtain ⟨F, ρ, S, h⟩ := h
  refine ⟨F, ρ, S, (h.bind S).mono fun h1 ρ1 F1 H1 ⟨p, q⟩ x hx => ?_⟩
  refine ⟨F1, ρ1, p.st, (q.bind p.st).mono fun k ρ2 F2 H2 ⟨p2, q2⟩ y hy => ?_⟩
  have pp := p.trans S p2
  have hx2 := HdOk.carry S p p2 hx
  unfold prim2 at q2
  split at q2
  · rename_i d e ed ee
    split at q2
    · rename_i rv ef
      exact h2 F2 H2 x y d e rv Q p2.st.le (hx2.pk p2.st ed) (hy.pk p2.st ee) ef fun v F' H' m => q2.prim S pp m
    · exact q2.elim
  · exact q2.elim
theorem se_bin {a b : Expr} {op : Operator} {pos : Pos} {f : D → D → Option RV} {r : R2} {ma mb : M Hd} (ho : OpR X (binaryOp op) r) (h2 : Op2 w.K r f) (ha : PE X a (tK w ma)) (hb : PE X b (tK w mb)) : PE X (.BinOp a op b pos) (tK w (mBin f ma mb)) :=
  PEimp (pe_op ho ha hb) fun _ _ _ h => op2_in h2 h
theorem se_cmp {a b : Expr} {op : CmpOp} {pos : Pos} {f : D → D → Option RV} {r : R2} {ma mb : M Hd} (ho : OpR X (compareOp op) r) (h2 : Op2 w.K r f) (ha : PE X a (tK w ma)) (hb : PE X b (tK w mb)) (hm : behindInMarks op b = false) : PE X (.Compare a [op] [b] pos) (tK w (mBin f ma mb)) :=
  PEimp (pe_cmpR ho ha hb hm) fun _ _ _ h => op2_in h2 h
theorem rd_v {K : PySem.W.Frag} {F' H H' : Hp} {ρ' : Ev} {σ : L2.St} {v : V} {r : RV} (h : HdOk K F' ρ' σ H H' v (.v r)) : HdOk K F' ρ' σ H H' v (.v r) := h
/-- a bool's reading as a test's -/
theorem tT_of {m : M Hd} {σ : L2.St} {H : Hp} {Q : Bool → Hp → Prop} (h : tT w m σ H Q) : tK w m σ H fun x H1 => ∃ k, x = .bl k ∧ Q k H1 := by
  obtain ⟨F, ρ, S, h⟩ := h
  refine ⟨F, ρ, S, ?_⟩
  cases e : m ρ with
  | bad => rw [e] at h; exact h
  | exc x ρ1 => rw [e] at h; exact h
  | ok k ρ1 =>
    rw [e] at h
    intro F1 H1 p v hv
    obtain ⟨b, eb, q⟩ := h F1 H1 p
    exact ⟨b, (hv.pk p.st eb).bl, q⟩
theorem st_cmp {a b : Expr} {op : CmpOp} {pos : Pos} {f : D → D → Option RV} {r : R2} {ma mb : M Hd} (ho : OpR X (compareOp op) r) (h2 : Op2 w.K r f) (ha : PE X a (tK w ma)) (hb : PE X b (tK w mb)) (hm : behindInMarks op b = false) : PT X (.Compare a [op] [b] pos) (tT w (mBin f ma mb)) :=
  PTimp (pt_cmpR ho ha hb hm) fun _ _ _ h => op2_in h2 (tT_of h)
theorem st_val {e : Expr} {m : M Hd} (h : PE X e (tK w m)) (he : ∀ whole, isTrue e X.env whole = (do let v ← whole; standAt e.pos; holding [v] (truthy v))) : PT X e (tT w m) :=
  PTimp (pt_val h he) fun _ _ _ h => tT_of h

/-! ### if, and, or, not -/
theorem Wp.if {α : Type} {F : Hp} {ρ : Ev} {σ : L2.St} {H : Hp} {h : Hd} {a b : M α} {Q : α → Ev → Hp → Hp → Prop}
    (q : Wp w F ρ σ H (match asB h ρ with | some true => a ρ | some false => b ρ | none => .bad) Q) :
    ∃ k, rd h ρ = some (.bool k) ∧ Wp w F ρ σ H (if k = true then a ρ else b ρ) Q := by
  split at q
  · rename_i e; exact ⟨true, asB_some e, q⟩
  · rename_i e; exact ⟨false, asB_some e, q⟩
  · exact q.elim
theorem if_in {c ma mb : M Hd} {σ : L2.St} {H : Hp} {Q : VK} (h : tK w (mIf c ma mb) σ H Q) : tIf (tT w c) (tK w ma) (tK w mb) σ H Q := by
  obtain ⟨F, ρ, S, h⟩ := h
  refine ⟨F, ρ, S, (h.bind S).mono fun h1 ρ1 F1 H1 ⟨p, q⟩ => ?_⟩
  obtain ⟨k, e, q⟩ := Wp.if q
  refine ⟨k, e, ?_⟩
  cases k with
  | true => exact ⟨F1, ρ1, p.st, Wp.mono q fun k ρ2 F2 H2 z v hv => z v (hv.start p.dom)⟩
  | false => exact ⟨F1, ρ1, p.st, Wp.mono q fun k ρ2 F2 H2 z v hv => z v (hv.start p.dom)⟩
theorem se_if {c a b : Expr} {pos : Pos} {mc ma mb : M Hd} (hc : PT X c (tT w mc)) (ha : PE X a (tK w ma)) (hb : PE X b (tK w mb)) : PE X (.IfExp c a b pos) (tK w (mIf mc ma mb)) :=
  PEimp (pe_ifExp hc ha hb) fun _ _ _ h => if_in h
theorem ifT_in {c ma mb : M Hd} {σ : L2.St} {H : Hp} {Q : Bool → Hp → Prop} (h : tT w (mIf c ma mb) σ H Q) : tT w c σ H fun k H1 => if k = true then tT w ma σ H1 Q else tT w mb σ H1 Q := by
  obtain ⟨F, ρ, S, h⟩ := h
  refine ⟨F, ρ, S, (h.bind S).mono fun h1 ρ1 F1 H1 ⟨p, q⟩ => ?_⟩
  obtain ⟨k, e, q⟩ := Wp.if q
  refine ⟨k, e, ?_⟩
  cases k with
  | true => exact ⟨F1, ρ1, p.st, q⟩
  | false => exact ⟨F1, ρ1, p.st, q⟩
theorem tT_C {b : Bool} {σ : L2.St} {H : Hp} {Q : Bool → Hp → Prop} (h : tT w (mC (.bool b)) σ H Q) : Q b H := by
  obtain ⟨F, ρ, S, h⟩ := h
  obtain ⟨k, e, q⟩ := h.ok S
  cases e
  exact q
theorem TT_mono {m : M Hd} {σ : L2.St} {H : Hp} {Q Q' : Bool → Hp → Prop} (h : tT w m σ H Q) (i : ∀ b H, Q b H → Q' b H) : tT w m σ H Q' := by
  obtain ⟨F, ρ, S, h⟩ := h
  exact ⟨F, ρ, S, Wp.mono h fun _ _ _ _ ⟨b, e, q⟩ => ⟨b, e, i _ _ q⟩⟩
theorem TK_mono {m : M Hd} {σ : L2.St} {H : Hp} {Q Q' : VK} (h : tK w m σ H Q) (i : ∀ b H, Q b H → Q' b H) : tK w m σ H Q' := by
  obtain ⟨F, ρ, S, h⟩ := h
  exact ⟨F, ρ, S, Wp.mono h fun _ _ _ _ q v hv => i _ _ (q v hv)⟩
theorem st_not {a : Expr} {pos : Pos} {ma : M Hd} (ha : PT X a (tT w ma)) : PT X (.UnaryOp .Not a pos) (tT w (mNot ma)) := by
  refine PTimp (pt_not ha) fun σ H Q h => TT_mono (ifT_in h) fun b H1 q => ?_
  cases b with
  | true => exact tT_C q
  | false => exact tT_C q
theorem sw_and {a b : Expr} {rest : List Expr} {pos : Pos} {ma mb : M Hd} (ha : PT X a (tT w ma)) (hb : PW X (.BoolOp .And (b :: rest) pos) (tT w mb)) : PW X (.BoolOp .And (a :: b :: rest) pos) (tT w (mAnd ma mb)) := by
  refine PWimp (pw_and ha hb) fun σ H Q h => TT_mono (ifT_in h) fun b H1 q => ?_
  cases b with
  | true => exact q
  | false => exact tT_C q
theorem sw_or {a b : Expr} {rest : List Expr} {pos : Pos} {ma mb : M Hd} (ha : PT X a (tT w ma)) (hb : PW X (.BoolOp .Or (b :: rest) pos) (tT w mb)) : PW X (.BoolOp .Or (a :: b :: rest) pos) (tT w (mOr ma mb)) := by
  refine PWimp (pw_or ha hb) fun σ H Q h => TT_mono (ifT_in h) fun b H1 q => ?_
  cases b with
  | true => exact tT_C q
  | false => exact q
/-- a test's answer, from the operand's value -/
theorem ifV_in {c ma mb : M Hd} {σ : L2.St} {H : Hp} {Q : VK} (h : tK w (mIf c ma mb) σ H Q) : tK w c σ H fun x H1 => ∃ k, x = .bl k ∧ if k = true then tK w ma σ H1 Q else tK w mb σ H1 Q := by
  obtain ⟨F, ρ, S, h⟩ := h
  refine ⟨F, ρ, S, (h.bind S).mono fun h1 ρ1 F1 H1 ⟨p, q⟩ v hv => ?_⟩
  obtain ⟨k, e, q⟩ := Wp.if q
  refine ⟨k, (hv.pk p.st e).bl, ?_⟩
  cases k with
  | true => exact ⟨F1, ρ1, p.st, Wp.mono q fun k ρ2 F2 H2 z v hv => z v (hv.start p.dom)⟩
  | false => exact ⟨F1, ρ1, p.st, Wp.mono q fun k ρ2 F2 H2 z v hv => z v (hv.start p.dom)⟩
theorem se_and {a b : Expr} {rest : List Expr} {pos : Pos} {ma mb : M Hd} (ha : PE X a (tK w ma)) (hb : PE X (.BoolOp .And (b :: rest) pos) (tK w mb)) : PE X (.BoolOp .And (a :: b :: rest) pos) (tK w (mAnd ma mb)) := by
  refine PEimp (pe_and ha hb) fun σ H Q h => TK_mono (ifV_in h) fun x H1 ⟨k, e, q⟩ => ⟨k, e, ?_⟩
  cases k with
  | true => exact q
  | false => exact tC_of (fun _ => .bl false) q
theorem se_or {a b : Expr} {rest : List Expr} {pos : Pos} {ma mb : M Hd} (ha : PE X a (tK w ma)) (hb : PE X (.BoolOp .Or (b :: rest) pos) (tK w mb)) : PE X (.BoolOp .Or (a :: b :: rest) pos) (tK w (mOr ma mb)) := by
  refine PEimp (pe_or ha hb) fun σ H Q h => TK_mono (ifV_in h) fun x H1 ⟨k, e, q⟩ => ⟨k, e, ?_⟩
  cases k with
  | true => exact tC_of (fun _ => .bl true) q
  | false => exact q
theorem se_not {a : Expr} {pos : Pos} {ma : M Hd} (ha : PE X a (tK w ma)) : PE X (.UnaryOp .Not a pos) (tK w (mNot ma)) := by
  refine PEimp (pe_not ha) fun σ H Q h => TK_mono (ifV_in h) fun x H1 ⟨k, e, q⟩ => ⟨k, e, ?_⟩
  cases k with
  | true => exact tC_of (fun _ => .bl false) q
  | false => exact tC_of (fun _ => .bl true) q
/-! ### a op b op c -/
def mChain (f g : D → D → Option RV) (a b c : M Hd) : M Hd := fun ρ => (a ρ).bind fun h1 ρ1 => (b ρ1).bind fun h2 ρ2 => (prim2 f h1 h2 ρ2).bind fun k ρ3 => match asB k ρ3 with
  | some true => (c ρ3).bind fun h3 ρ4 => prim2 g h2 h3 ρ4
  | some false => .ok (.v (.fz (.bool false))) ρ3
  | none => .bad
theorem chain_in {f g : D → D → Option RV} {r r' : R2} {ma mb mc : M Hd} {σ : L2.St} {H : Hp} {Q : VK} (h2 : Op2 w.K r f) (h3 : Op2 w.K r' g) (h : tK w (mChain f g ma mb mc) σ H Q) : tChain r r' (tK w ma) (tK w mb) (tK w mc) σ H Q := by
  obtain ⟨F, ρ, S, h⟩ := h
  refine ⟨F, ρ, S, (h.bind S).mono fun h1 ρ1 F1 H1 ⟨p, q⟩ x hx => ?_⟩
  refine ⟨F1, ρ1, p.st, (q.bind p.st).mono fun k ρ2 F2 H2 ⟨p2, q2⟩ y hy => ?_⟩
  have pp := p.trans S p2
  have hx2 := HdOk.carry S p p2 hx
  unfold prim2 at q2
  split at q2
  · rename_i d e ed ee
    split at q2
    · rename_i rv ef
      refine h2 F2 H2 x y d e rv _ p2.st.le (hx2.pk p2.st ed) (hy.pk p2.st ee) ef fun v F' H' m => ?_
      have pm := p2.st.made m
      have q3 := (q2.bind p2.st) F' H' pm
      obtain ⟨_, q3⟩ := q3
      obtain ⟨b, eb, q3⟩ := Wp.if (a := fun ρ3 => (mc ρ3).bind fun h3 ρ4 => prim2 g k h3 ρ4) (b := fun ρ3 => .ok (.v (.fz (.bool false))) ρ3) q3
      have hv : HdOk w.K F' ρ2 σ H2 H' v (.v rv) := m.rv
      refine ⟨b, (hv.pk pm.st eb).bl, ?_⟩
      cases b with
      | false => exact q3 F' H' (.refl pm.st) (.bl false) (Rp.bl false)
      | true =>
        refine ⟨F', ρ2, pm.st, (q3.bind pm.st).mono fun k3 ρ4 F4 H4 ⟨p4, q4⟩ z hz => ?_⟩
        have hy4 := HdOk.carry p.st p2 (pm.trans p2.st p4) hy
        unfold prim2 at q4
        split at q4
        · rename_i d' e' ed' ee'
          split at q4
          · rename_i rv' ef'
            exact h3 F4 H4 y z d' e' rv' Q p4.st.le (hy4.pk p4.st ed') (hz.pk p4.st ee') ef' fun v F5 H5 m5 => q4.prim S (pp.trans S (pm.trans p2.st p4)) m5
          · exact q4.elim
        · exact q4.elim
    · exact q2.elim
  · exact q2.elim
theorem se_chain {a b c : Expr} {op op' : CmpOp} {pos : Pos} {f g : D → D → Option RV} {r r' : R2} {ma mb mc : M Hd} (ho : OpR X (compareOp op) r) (h2 : Op2 w.K r f) (ho' : OpR X (compareOp op') r') (h3 : Op2 w.K r' g)
    (ha : PE X a (tK w ma)) (hb : PE X b (tK w mb)) (hc : PE X c (tK w mc)) (hm : lastMarks [op, op'] [b, c] = false) : PE X (.Compare a [op, op'] [b, c] pos) (tK w (mChain f g ma mb mc)) :=
  PEimp (pe_chain ho ho' ha hb hc hm) fun _ _ _ h => chain_in h2 h3 h
theorem st_chain {a b c : Expr} {op op' : CmpOp} {pos : Pos} {f g : D → D → Option RV} {r r' : R2} {ma mb mc : M Hd} (ho : OpR X (compareOp op) r) (h2 : Op2 w.K r f) (ho' : OpR X (compareOp op') r') (h3 : Op2 w.K r' g)
    (ha : PE X a (tK w ma)) (hb : PE X b (tK w mb)) (hc : PE X c (tK w mc)) (hm : lastMarks [op, op'] [b, c] = false) : PT X (.Compare a [op, op'] [b, c] pos) (tT w (mChain f g ma mb mc)) :=
  PTimp (pt_chain ho ho' ha hb hc hm) fun _ _ _ h => chain_in h2 h3 (tT_of h)

/-! ### argument lists -/
theorem HdsOk.carry {F F1 F2 H0 H1 H2 : Hp} {ρ ρ1 ρ2 : Ev} {σ : L2.St} {K : PySem.W.Frag} (S : St K F ρ σ H0) (p : StpE K F ρ σ H0 F1 ρ1 H1) (q : StpE K F1 ρ1 σ H1 F2 ρ2 H2) : ∀ {vs : List V} {hs : List Hd}, HdsOk K F1 ρ1 σ H0 H1 vs hs → HdsOk K F2 ρ2 σ H0 H2 vs hs
  | [], [], _ => trivial
  | v :: vs, h :: hs, ⟨a, b, c⟩ => ⟨HdOk.carry S p q a, HdsOk.carry S p q b, c⟩
  | [], _ :: _, h => h.elim
  | _ :: _, [], h => h.elim
theorem sa_nil : PA X [] (tA w (mArgs [])) := PAimp pa_nil fun σ H Q h => by
  obtain ⟨F, ρ, S, h⟩ := h
  exact h.ok S [] trivial
theorem HdsOk.start {F' H H1 H' : Hp} {ρ' : Ev} {σ : L2.St} {K : PySem.W.Frag} (d : ∀ b, H1 b = none → H b = none) : ∀ {vs : List V} {hs : List Hd}, HdsOk K F' ρ' σ H1 H' vs hs → HdsOk K F' ρ' σ H H' vs hs
  | [], [], _ => trivial
  | v :: vs, h :: hs, ⟨a, b, c⟩ => ⟨a.start d, HdsOk.start d b, c⟩
  | [], _ :: _, h => h.elim
  | _ :: _, [], h => h.elim
theorem sa_cons {e : Expr} {es : List Expr} {m : M Hd} {ms : List (M Hd)} (ha : PE X e (tK w m)) (hr : PA X es (tA w (mArgs ms))) (hs : starEach (e :: es) X.env = (false, eval e X.env) :: starEach es X.env) : PA X (e :: es) (tA w (mArgs (m :: ms))) := by
  refine PAimp (pa_cons ha hr hs) fun σ H Q h => ?_
  obtain ⟨F, ρ, S, h⟩ := h
  refine ⟨F, ρ, S, (h.bind S).mono fun h1 ρ1 F1 H1 ⟨p, q⟩ x hx => ?_⟩
  refine ⟨F1, ρ1, p.st, (q.bind p.st).mono fun k ρ2 F2 H2 ⟨p2, q2⟩ ys hy => ?_⟩
  refine q2.ok p2.st (x :: ys) ⟨HdOk.carry S p p2 hx, HdsOk.start p.dom hy, fun xs e u zs m eu => ?_⟩
  subst e
  obtain ⟨a, vs, ex, h0, h1', _⟩ := hx
  obtain ⟨b, us, ey, g0, _⟩ := hy.mem m
  rw [eu, ex] at ey
  cases ey
  rw [g0] at h1'
  cases h1'
def PkAll (K : PySem.W.Frag) (F H : Hp) : List V → List D → Prop
  | [], [] => True
  | v :: vs, d :: ds => Pk K F H v d ∧ PkAll K F H vs ds
  | _, _ => False
theorem HdsOk.pk {F' H H' : Hp} {ρ' : Ev} {σ : L2.St} {K : PySem.W.Frag} (S : St K F' ρ' σ H') : ∀ {vs : List V} {hs : List Hd} {ds : List D}, HdsOk K F' ρ' σ H H' vs hs → rds hs ρ' = some ds → PkAll K F' H' vs ds
  | [], [], _, _, e => by cases e; trivial
  | v :: vs, h :: hs, ds, ⟨a, b, _⟩, e => by
    unfold rds at e
    split at e
    · rename_i d ds' e1 e2
      cases e
      exact ⟨a.pk S e1, HdsOk.pk S b e2⟩
    · cases e
  | [], _ :: _, _, h, _ => h.elim
  | _ :: _, [], _, h, _ => h.elim
def OpN (K : PySem.W.Frag) (r : List V → Hp → VK → Prop) (f : List D → Option RV) : Prop := ∀ (F H : Hp) (vs : List V) (ds : List D) (rv : RV) (Q : VK), Sub F H → PkAll K F H vs ds → f ds = some rv →
  (∀ v F' H', Mk K F H v F' H' rv → Q v H') → r vs H Q
theorem opN_in {f : List D → Option RV} {r : List V → Hp → VK → Prop} {ms : List (M Hd)} {σ : L2.St} {H : Hp} {Q : VK} (h2 : OpN w.K r f) (h : tK w (mPrim f ms) σ H Q) : tA w (mArgs ms) σ H fun vs H1 => r vs H1 Q := by
  obtain ⟨F, ρ, S, h⟩ := h
  refine ⟨F, ρ, S, (h.bind S).mono fun hs ρ1 F1 H1 ⟨p, q⟩ vs hv => ?_⟩
  unfold primN at q
  split at q
  · rename_i ds ed
    split at q
    · rename_i rv ef
      exact h2 F1 H1 vs ds rv Q p.st.le (hv.pk p.st ed) ef fun v F' H' m => q.prim S p m
    · exact q.elim
  · exact q.elim
end
end Pu
set_option Elab.async false
set_option linter.all false
set_option maxRecDepth 100000
set_option maxHeartbeats 1000000
/-! Pu3: the pure layer: what each operation does to data. -/
namespace Pu
open PySem L2 PyProof.Rows
abbrev lim : Nat := 16777216
theorem lim_le {n : Nat} (h : n ≤ lim) : n ≤ sizeLine := by rw [sizeLine_eq]; exact h
mutual
theorem Rp.plain {K : PySem.W.Frag} {F : Hp} : ∀ (d : D) (v : V), Rp K F v d → d.plain = true
  | .none, _, _ => rfl
  | .bool _, _, _ => rfl
  | .int _, _, _ => rfl
  | .str _, _, _ => rfl
  | .list ds, _, h => by
    cases h with
    | lst a b => exact RpAll.plain ds _ b
  | .tuple ds, _, h => by
    cases h with
    | tup a b => exact RpAll.plain ds _ b
  | .dict _, _, h => by cases h
theorem RpAll.plain {K : PySem.W.Frag} {F : Hp} : ∀ (ds : List D) (vs : List V), RpAll K F vs ds → PyData.plainAll ds = true
  | [], _, _ => rfl
  | d :: ds, _, h => by
    cases h with
    | cons a b =>
      show (d.plain && PyData.plainAll ds) = true
      rw [Rp.plain d _ a, RpAll.plain ds _ b]
      rfl
end
section
variable {X : Cx} {pins : List (Addr × Obj)} {σ : L2.St} {H : Hp} {s : Shared}
theorem Rp.reads (I : Inv X pins σ H s) {d : D} {v : V} {u : Value} (h : Rp X.K H v d) (r : RelV v u) : ∃ as, Reads s.heap u d as := Dp.reads I d v u (Rp.dp d v h) r
theorem RpAll.reads (I : Inv X pins σ H s) {d : List D} {v : List V} {u : List Value} (h : RpAll X.K H v d) (r : Vals v u) : ∃ as, ReadsAll s.heap u d as := Dp.readsAll I d v u (RpAll.dp d v h) r
end

/-! ### arithmetic -/
def mulOk (i j : Int) : Bool := (decide (-18446744073709551616 < i) && decide (i < 18446744073709551616)) || (decide (-18446744073709551616 < j) && decide (j < 18446744073709551616))
theorem mulOk_c {i j : Int} (h : mulOk i j = true) : CMul i j := by
  unfold mulOk at h
  simp only [Bool.or_eq_true, Bool.and_eq_true, decide_eq_true_eq] at h
  exact h
def fAdd : D → D → Option RV
  | .int i, .int j => some (.fz (.int (i + j)))
  | .str x, .str y => if x.length + y.length ≤ lim then some (.fz (.str (x ++ y))) else none
  | .list xs, .list ys => if xs.length + ys.length ≤ lim then some (.fr (xs ++ ys)) else none
  | .tuple xs, .tuple ys => if xs.length + ys.length ≤ lim then some (.fz (.tuple (xs ++ ys))) else none
  | .int i, .bool k => some (.fz (.int (i + b2i k)))
  | _, _ => none
def rIL (g : Int → Int → V) : R2 := rI0 g
def rCatL : R2 := fun x y H Q => ∃ l b xs zs, x = .ref l ∧ y = .ref b ∧ Rd H l (.lst xs) ∧ Rd H b (.lst zs) ∧ xs.length + zs.length ≤ sizeLine ∧ ∀ p, H p = none → Q (.ref p) (upd H p (.lst (xs ++ zs)))
section
variable {X : Cx}
theorem Inv.rdL {pins : List (Addr × Obj)} {σ : L2.St} {H : Hp} {s : Shared} {l : Addr} {xs : List V} (I : Inv X pins σ H s) (h : Rd H l (.lst xs)) : xs.length ≤ sizeLine ∧
    ∃ (its : List Value) (n : Nat), Vals xs its ∧ xs.length = its.length ∧ s.heap.get? l = some { cls := .type "list", data := .seq its.toArray n } := by
  have q : ObjOk X.prog X.w H s.heap l (.lst xs) := h.ok I.hok
  obtain ⟨z, its, n, r, e⟩ := q
  exact ⟨z, its, n, r, r.length, e⟩
theorem op_catL : OpR X (binaryOp .Add) rCatL := by
  intro pins s σ H x y v u Q I rx ry ⟨l, b, xs, zs, ex, ey, h1, h2, hz, q⟩
  subst ex; subst ey
  cases rx; cases ry
  obtain ⟨z1, as, n1, ra, la, ea⟩ := Inv.rdL I h1
  obtain ⟨z2, bs, n2, rb, lb, eb⟩ := Inv.rdL I h2
  refine PySem.P.add_list ea eb ?_ (by rw [List.size_toArray, List.size_toArray, ← la, ← lb]; exact hz)
  rw [show as.toArray ++ bs.toArray = (as ++ bs).toArray from by simp]
  exact ⟨.ref s.heap.objs.size, upd H s.heap.objs.size (.lst (xs ++ zs)), I.lnew (t' := s.toks) (ra.append rb) (by rw [List.length_append]; exact hz), rfl, q _ I.fresh⟩
end
def rAdd (K : PySem.W.Frag) : R2 := fun x y H Q => rI0 (fun i j => .int (i + j)) x y H Q ∨ (∃ i j, x = .str i ∧ y = .str j ∧ i.length + j.length ≤ sizeLine ∧ Q (.str (i ++ j)) H) ∨ rCatL x y H Q ∨ rCatA K x y H Q ∨
  (∃ i k, x = .int i ∧ y = .bl k ∧ Q (.int (i + b2i k)) H)
theorem or_add {X : Cx} : OpR X (binaryOp .Add) (rAdd X.K) := op_add.or (op_add_str.or (op_catL.or (op_catA.or op_add_ib)))
theorem ok_add {K : PySem.W.Frag} : Op2 K (rAdd K) fAdd := by
  intro F H x y d e rv Q s px py hf k
  cases d <;> cases e <;> simp only [fAdd] at hf <;> try (cases hf; done)
  · cases hf
    rename_i i j
    exact .inr (.inr (.inr (.inr ⟨i, j, px.int, py.bl, k _ _ _ (.val s (.int _))⟩)))
  · cases hf
    rename_i i j
    exact .inl ⟨i, j, px.int, py.int, k _ _ _ (.val s (.int _))⟩
  · split at hf
    · rename_i i j hz
      cases hf
      exact .inr (.inl ⟨i, j, px.str, py.str, lim_le hz, k _ _ _ (.val s (.str _))⟩)
    · cases hf
  · split at hf
    · rename_i i j hz
      cases hf
      obtain ⟨a, vs, e1, q1, r1⟩ := px.lst s
      obtain ⟨b, us, e2, q2, r2⟩ := py.lst s
      refine .inr (.inr (.inl ⟨a, b, vs, us, e1, e2, q1, q2, lim_le (by rw [r1.length, r2.length]; exact hz), fun p hp => k _ _ _ (.lst s hp (r1.append r2))⟩))
    · cases hf
  · split at hf
    · rename_i i j hz
      cases hf
      obtain ⟨a, vs, e1, q1, r1⟩ := px.tup
      obtain ⟨b, us, e2, q2, r2⟩ := py.tup
      refine .inr (.inr (.inr (.inl ⟨a, b, vs, us, e1, e2, s.sqT q1, s.sqT q2, lim_le (by rw [r1.length, r2.length]; exact hz), fun z => ?_, fun _ z => ?_, fun _ _ p hp => k _ _ _ (.tup s hp (r1.append r2))⟩)))
      · subst z
        cases i with
        | cons _ _ => cases r1
        | nil => exact k _ _ _ (.val s (.tup q2 r2))
      · subst z
        cases j with
        | cons _ _ => cases r2
        | nil => rw [List.append_nil] at k; exact k _ _ _ (.val s (.tup q1 r1))
    · cases hf
def fSub : D → D → Option RV
  | .int i, .int j => some (.fz (.int (i - j)))
  | _, _ => none
theorem ok_sub {K : PySem.W.Frag} : Op2 K (rI0 fun i j => .int (i - j)) fSub := by
  intro F H x y d e rv Q s px py hf k
  cases d <;> cases e <;> simp only [fSub] at hf <;> try (cases hf; done)
  cases hf
  exact ⟨_, _, px.int, py.int, k _ _ _ (.val s (.int _))⟩
def fDiv : D → D → Option RV
  | .int i, .int j => if 0 < j ∧ j < 1073741824 then some (.fz (.int (i / j))) else none
  | _, _ => none
theorem ok_div {K : PySem.W.Frag} : Op2 K (rI CDiv fun i j => .int (i / j)) fDiv := by
  intro F H x y d e rv Q s px py hf k
  cases d <;> cases e <;> simp only [fDiv] at hf <;> try (cases hf; done)
  split at hf
  · rename_i hz
    cases hf
    exact ⟨_, _, px.int, py.int, hz, k _ _ _ (.val s (.int _))⟩
  · cases hf
def fMod : D → D → Option RV
  | .int i, .int j => if 0 < j then some (.fz (.int (i % j))) else none
  | _, _ => none
theorem ok_mod {K : PySem.W.Frag} : Op2 K (rI (fun _ j => 0 < j) fun i j => .int (i % j)) fMod := by
  intro F H x y d e rv Q s px py hf k
  cases d <;> cases e <;> simp only [fMod] at hf <;> try (cases hf; done)
  split at hf
  · rename_i hz
    cases hf
    exact ⟨_, _, px.int, py.int, hz, k _ _ _ (.val s (.int _))⟩
  · cases hf
def fPow : D → D → Option RV
  | .int i, .int j => if 0 ≤ j ∧ j ≤ 1000000 ∧ i.natAbs < 18446744073709551616 then some (.fz (.int (i ^ j.toNat))) else none
  | _, _ => none
theorem ok_pow {K : PySem.W.Frag} : Op2 K (rI CPow fun i j => .int (i ^ j.toNat)) fPow := by
  intro F H x y d e rv Q s px py hf k
  cases d <;> cases e <;> simp only [fPow] at hf <;> try (cases hf; done)
  split at hf
  · rename_i hz
    cases hf
    exact ⟨_, _, px.int, py.int, hz, k _ _ _ (.val s (.int _))⟩
  · cases hf

/-! ### times -/
def rep {α : Type} (n : Nat) (xs : List α) : List α := (List.replicate n xs).flatten
theorem RpAll.rep {K : PySem.W.Frag} {F : Hp} {vs : List V} {ds : List D} (h : RpAll K F vs ds) : ∀ n, RpAll K F (rep n vs) (rep n ds)
  | 0 => .nil
  | n + 1 => by
    have ih := RpAll.rep h n
    unfold Pu.rep at ih ⊢
    rw [List.replicate_succ, List.flatten_cons, List.replicate_succ, List.flatten_cons]
    exact h.append ih
theorem rep_len {α : Type} (xs : List α) : ∀ n, (rep n xs).length = n * xs.length
  | 0 => by simp [rep]
  | n + 1 => by
    have ih := rep_len xs n
    unfold rep at ih ⊢
    rw [List.replicate_succ, List.flatten_cons, List.length_append, ih, Nat.add_mul, Nat.one_mul, Nat.add_comm]
section
variable {X : Cx}
def rRepL : R2 := fun x y H Q => ∃ l k xs, x = .ref l ∧ y = .int k ∧ Rd H l (.lst xs) ∧ -(2 ^ 63) ≤ k ∧ k < 2 ^ 63 ∧ xs.length * k.toNat ≤ sizeLine ∧ ∀ p, H p = none → Q (.ref p) (upd H p (.lst (rep k.toNat xs)))
theorem op_repL : OpR X (binaryOp .Mult) rRepL := by
  intro pins s σ H x y v u Q I rx ry ⟨l, k, xs, ex, ey, hH, h1, h2, hz, q⟩
  subst ex; subst ey
  cases rx
  obtain ⟨t, rfl⟩ := ry
  obtain ⟨z, its, n, r, hl, e⟩ := Inv.rdL I hH
  have g1 : its.toArray.size * k.toNat ≤ sizeLine := by rw [List.size_toArray, ← hl]; exact hz
  have g2 : ¬ its.toArray.size * k.toNat > (2 ^ 63 - 1) / 8 := by
    have g0 : (sizeLine : Nat) ≤ (2 ^ 63 - 1) / 8 := by decide
    omega
  have g3 : ¬ (!Builtin.List.listFitsIndex k) = true := by
    rw [fitsIndex_both h1 h2]; exact Bool.false_ne_true
  have g4 : ¬ Builtin.List.listTooLong (its.toArray.size * k.toNat) = true := by
    rw [notLongL g1]; exact Bool.false_ne_true
  have g5 : List.foldl (fun a b => a ++ b) #[] (List.replicate (if its.toArray.isEmpty = true then 0 else k.toNat) its.toArray) = (rep k.toNat its).toArray := by
    have f0 : ∀ m : Nat, List.foldl (fun a b => a ++ b) #[] (List.replicate m its.toArray) = (rep m its).toArray := fun m => by
      have g := foldl_rep its m []
      rw [List.nil_append] at g; exact g
    rw [f0]
    cases its with
    | nil => simp [rep]
    | cons a r' => rw [if_neg (by simp)]
  refine wpAny_binaryOp_repeat_ref (T := "list") (U := "int") (by decide) ⟨_, e, rfl⟩ (fun s' => typeIs_int s' k t) noFill_list_mul F.fills_int_mul F.slot_int_rmul repeat_list F.slot_int_index.lookup (call_meets F.slot_int_rmul (typeIs_int s k t) F.entry_int_rmul (F.args_int_rmul_2 _ _) (int___rmul___int_list k t l its.toArray n)
    ⟨e, rfl, ⟨_, e, rfl⟩, call_meets F.slot_list_mul ⟨_, e, rfl⟩ F.entry_list_mul (F.args_list_mul_2 _ _) (AutoListH.list___mul___list_int_3 l its.toArray n k t g3 g2 g4) ⟨e, ?_⟩⟩)
  rw [g5]
  exact ⟨.ref s.heap.objs.size, upd H s.heap.objs.size (.lst (rep k.toNat xs)), I.lnew (t' := s.toks) (r.rep k.toNat) (by rw [rep_len, Nat.mul_comm]; exact hz), rfl, q _ I.fresh⟩
end

theorem tuple_mul1 (l : Addr) (items : Array Value) (n : Nat) (u : Tok) : Meets (Builtin.«tuple.__mul__» ⟨[.ref l, .int 1 u], []⟩)
    (fun _ R s => (∃ dd sl, s.heap.get? l = some { cls := .type "tuple", dict := dd, data := .seq items n, slots := sl }) ∧ R (.ok (.ret (.ref l))) s) := .of_wp fun prog w A R s h => by
  obtain ⟨hp, g, d, tk, os⟩ := s
  obtain ⟨⟨dd, sl, hl⟩, h⟩ := h
  have f1 := AutoSeq1.idx_int
  wp_walk using AutoSeq1.wpAny_loadPart' hl
  repeat (first
    | (refine wpAny_ite_false (decide_eq_false (by decide)) ?_; wp_walk using AutoSeq1.wpAny_loadPart' hl)
    | (refine wpAny_ite_true (decide_eq_true (by simp)) ?_; wp_walk using AutoSeq1.wpAny_loadPart' hl))
  exact ⟨_, rfl, h⟩
section
variable {X : Cx}
def rRep1 (K : PySem.W.Frag) : R2 := fun x y H Q => ∃ l xs, x = .ref l ∧ y = .int 1 ∧ SqT K H l xs ∧ Q (.ref l) H
theorem op_rep1 : OpR X (binaryOp .Mult) (rRep1 X.K) := by
  intro pins s σ H x y v u Q I rx ry ⟨l, xs, ex, ey, hT, q⟩
  subst ex; subst ey
  cases rx
  obtain ⟨t, rfl⟩ := ry
  obtain ⟨its, r, ⟨⟨cls, dd, data, sl⟩, ho, hc, n, hd⟩, hs⟩ := I.tuple hT
  simp only at hc hd
  subst hc hd
  refine wpAny_binaryOp_repeat_ref (T := "tuple") (U := "int") (by decide) ⟨_, ho, rfl⟩ (fun s' => typeIs_int s' 1 t) noFill_tuple_mul F.fills_int_mul F.slot_int_rmul repeat_tuple F.slot_int_index.lookup (call_meets F.slot_int_rmul (typeIs_int s 1 t) F.entry_int_rmul
    (F.args_int_rmul_2 _ _) (int_rmul_tuple 1 t l its.toArray n dd sl) ⟨ho, rfl, ⟨_, ho, rfl⟩, call_meets F.slot_tuple_mul ⟨_, ho, rfl⟩ F.entry_tuple_mul (F.args_tuple_mul_2 _ _) (tuple_mul1 l its.toArray n t) ⟨⟨dd, sl, ho⟩, ?_⟩⟩)
  exact ⟨.ref l, H, I, rfl, q⟩
end
def fMul : D → D → Option RV
  | .int i, .int j => if mulOk i j = true then some (.fz (.int (i * j))) else none
  | .list xs, .int k => if -(2 ^ 63) ≤ k ∧ k < 2 ^ 63 ∧ xs.length * k.toNat ≤ lim then some (.fr (rep k.toNat xs)) else none
  | .tuple xs, .int k => if xs.length ≤ 1000 ∧ 1 ≤ k ∧ k ≤ 1000 ∧ xs.isEmpty = false then some (.fz (.tuple (rep k.toNat xs))) else none
  | _, _ => none
def rMul (K : PySem.W.Frag) : R2 := fun x y H Q => rI CMul (fun i j => .int (i * j)) x y H Q ∨ rRepL x y H Q ∨ rRepT K x y H Q ∨ rRep1 K x y H Q
theorem or_mul {X : Cx} : OpR X (binaryOp .Mult) (rMul X.K) := op_mul.or (op_repL.or (op_repT.or op_rep1))
theorem rep_one {α : Type} (xs : List α) : rep 1 xs = xs := by simp [rep]
theorem ok_mul {K : PySem.W.Frag} : Op2 K (rMul K) fMul := by
  intro F H x y d e rv Q s px py hf k
  cases d <;> cases e <;> simp only [fMul] at hf <;> try (cases hf; done)
  · split at hf
    · rename_i hz
      cases hf
      exact .inl ⟨_, _, px.int, py.int, mulOk_c hz, k _ _ _ (.val s (.int _))⟩
    · cases hf
  · split at hf
    · rename_i hz
      cases hf
      obtain ⟨a, vs, e1, q1, r1⟩ := px.lst s
      exact .inr (.inl ⟨a, _, vs, e1, py.int, q1, hz.1, hz.2.1, lim_le (by rw [r1.length]; exact hz.2.2), fun p hp => k _ _ _ (.lst s hp (r1.rep _))⟩)
    · cases hf
  · rename_i ds j
    split at hf
    · rename_i hz
      cases hf
      obtain ⟨h1, h2, h3, h4⟩ := hz
      obtain ⟨a, vs, e1, q1, r1⟩ := px.tup
      by_cases hj : j = 1
      · subst hj
        rw [show (1 : Int).toNat = 1 from rfl, rep_one] at k
        exact .inr (.inr (.inr ⟨a, vs, e1, py.int, s.sqT q1, k _ _ _ (.val s (.tup q1 r1))⟩))
      · refine .inr (.inr (.inl ⟨a, j, vs, e1, py.int, s.sqT q1, fun z => ?_, by omega, h3, by rw [r1.length]; exact h1, fun p hp => k _ _ _ (.tup s hp (r1.rep _))⟩))
        subst z
        cases ds with
        | nil => cases h4
        | cons _ _ => cases r1
    · cases hf
/-! ### comparisons -/
def small (d e : D) : Bool := decide (min d.depth e.depth ≤ 64)
def fEq (d e : D) : Option RV := if small d e = true then some (.fz (.bool (PyData.eqv d e))) else none
def fNe (d e : D) : Option RV := if small d e = true then some (.fz (.bool (!PyData.eqv d e))) else none
def rEqA (K : PySem.W.Frag) : R2 := fun x y H Q => ∃ d e, Rp K H x d ∧ Rp K H y e ∧ min d.depth e.depth ≤ 64 ∧ Q (.bl (PyData.eqv d e)) H
def rNeA (K : PySem.W.Frag) : R2 := fun x y H Q => ∃ d e, Rp K H x d ∧ Rp K H y e ∧ min d.depth e.depth ≤ 64 ∧ Q (.bl (!PyData.eqv d e)) H
section
variable {X : Cx}
theorem op_eqA (hu : X.A.units + 70 < cLine) : OpR X (compareOp .Eq) (rEqA X.K) := by
  intro pins s σ H x y v u Q I rx ry ⟨d, e, h1, h2, hs, q⟩
  obtain ⟨as, r1⟩ := h1.reads I rx
  obtain ⟨bs, r2⟩ := h2.reads I ry
  exact SeqAt.eq_plain r1 r2 h1.plain h2.plain (by omega) ⟨.bl _, H, I, rfl, q⟩
theorem op_neA (hu : X.A.units + 70 < cLine) : OpR X (compareOp .NotEq) (rNeA X.K) := by
  intro pins s σ H x y v u Q I rx ry ⟨d, e, h1, h2, hs, q⟩
  obtain ⟨as, r1⟩ := h1.reads I rx
  obtain ⟨bs, r2⟩ := h2.reads I ry
  exact SeqAt.ne_plain r1 r2 h1.plain h2.plain (by omega) ⟨.bl _, H, I, rfl, q⟩
end
theorem ok_eq {K : PySem.W.Frag} : Op2 K (rEqA K) fEq := by
  intro F H x y d e rv Q s px py hf k
  unfold fEq at hf
  split at hf
  · rename_i hz
    cases hf
    exact ⟨d, e, px.rpH s, py.rpH s, of_decide_eq_true hz, k _ _ _ (.val s (.bl _))⟩
  · cases hf
theorem ok_ne {K : PySem.W.Frag} : Op2 K (rNeA K) fNe := by
  intro F H x y d e rv Q s px py hf k
  unfold fNe at hf
  split at hf
  · rename_i hz
    cases hf
    exact ⟨d, e, px.rpH s, py.rpH s, of_decide_eq_true hz, k _ _ _ (.val s (.bl _))⟩
  · cases hf
def isNon : D → Bool
  | .none => true
  | _ => false
/-- order: whole numbers, or data that are alike -/
def fOrd (g : Int → Int → Bool) (h : D → D → Bool) (d e : D) : Option RV := match d, e with
  | .int i, .int j => some (.fz (.bool (g i j)))
  | d, e => if small d e = true ∧ PySem.W.alike d e = true ∧ isNon d = false then some (.fz (.bool (h d e))) else none
def fLt : D → D → Option RV := fOrd (fun i j => decide (i < j)) fun d e => PySem.W.dataLt d e
def fGt : D → D → Option RV := fOrd (fun i j => decide (j < i)) fun d e => PySem.W.dataLt e d
def fLe : D → D → Option RV := fOrd (fun i j => decide (i ≤ j)) fun d e => !PySem.W.dataLt e d
def fGe : D → D → Option RV := fOrd (fun i j => decide (j ≤ i)) fun d e => !PySem.W.dataLt d e
def rOrd (K : PySem.W.Frag) (g : Int → Int → Bool) (h : D → D → Bool) : R2 := fun x y H Q => (rI0 fun i j => .bl (g i j)) x y H Q ∨ ∃ d e, Rp K H x d ∧ Rp K H y e ∧ min d.depth e.depth ≤ 64 ∧ PySem.W.alike d e = true ∧ isNon d = false ∧ Q (.bl (h d e)) H
theorem isNon_ne {d : D} (h : isNon d = false) : d ≠ .none := fun e => by rw [e] at h; cases h
section
variable {X : Cx}
theorem op_ltA (hu : X.A.units + 70 < cLine) : OpR X (compareOp .Lt) (rOrd X.K (fun i j => decide (i < j)) fun d e => PySem.W.dataLt d e) := op_lt.or (by
  intro pins s σ H x y v u Q I rx ry ⟨d, e, h1, h2, hs, ha, hn, q⟩
  obtain ⟨as, r1⟩ := h1.reads I rx
  obtain ⟨bs, r2⟩ := h2.reads I ry
  exact PySem.W.lt_data r1 r2 ha (isNon_ne hn) (by omega) ⟨.bl _, H, I, rfl, q⟩)
theorem op_gtA (hu : X.A.units + 70 < cLine) : OpR X (compareOp .Gt) (rOrd X.K (fun i j => decide (j < i)) fun d e => PySem.W.dataLt e d) := op_gt.or (by
  intro pins s σ H x y v u Q I rx ry ⟨d, e, h1, h2, hs, ha, hn, q⟩
  obtain ⟨as, r1⟩ := h1.reads I rx
  obtain ⟨bs, r2⟩ := h2.reads I ry
  exact PySem.W.gt_data r1 r2 ha (isNon_ne hn) (by omega) ⟨.bl _, H, I, rfl, q⟩)
theorem op_leA (hu : X.A.units + 70 < cLine) : OpR X (compareOp .LtE) (rOrd X.K (fun i j => decide (i ≤ j)) fun d e => !PySem.W.dataLt e d) := op_le.or (by
  intro pins s σ H x y v u Q I rx ry ⟨d, e, h1, h2, hs, ha, hn, q⟩
  obtain ⟨as, r1⟩ := h1.reads I rx
  obtain ⟨bs, r2⟩ := h2.reads I ry
  exact PySem.W.le_data r1 r2 ha (isNon_ne hn) (by omega) ⟨.bl _, H, I, rfl, q⟩)
theorem op_geA (hu : X.A.units + 70 < cLine) : OpR X (compareOp .GtE) (rOrd X.K (fun i j => decide (j ≤ i)) fun d e => !PySem.W.dataLt d e) := op_ge.or (by
  intro pins s σ H x y v u Q I rx ry ⟨d, e, h1, h2, hs, ha, hn, q⟩
  obtain ⟨as, r1⟩ := h1.reads I rx
  obtain ⟨bs, r2⟩ := h2.reads I ry
  exact PySem.W.ge_data r1 r2 ha (isNon_ne hn) (by omega) ⟨.bl _, H, I, rfl, q⟩)
end
theorem ok_ord {K : PySem.W.Frag} (g : Int → Int → Bool) (h : D → D → Bool) : Op2 K (rOrd K g h) (fOrd g h) := by
  intro F H x y d e rv Q s px py hf k
  unfold fOrd at hf
  split at hf
  · cases hf
    exact .inl ⟨_, _, px.int, py.int, k _ _ _ (.val s (.bl _))⟩
  · split at hf
    · rename_i hz
      cases hf
      exact .inr ⟨_, _, px.rpH s, py.rpH s, of_decide_eq_true hz.1, hz.2.1, hz.2.2, k _ _ _ (.val s (.bl _))⟩
    · cases hf
/-- in -/
def fIn (neg : Bool) (d : D) : D → Option RV
  | .list xs => if min (PyData.depthAll xs) d.depth ≤ 64 then some (.fz (.bool (neg != xs.any fun y => PyData.eqv y d))) else none
  | .tuple xs => if min (PyData.depthAll xs) d.depth ≤ 64 then some (.fz (.bool (neg != xs.any fun y => PyData.eqv y d))) else none
  | .str y => (match d with
    | .str x => if x.length = 1 then some (.fz (.bool (neg != decide (x.cps.getD 0 0 ∈ y.cps.toList)))) else none
    | _ => none)
  | _ => none
def rInA (K : PySem.W.Frag) (neg : Bool) : R2 := fun x y H Q => ∃ d xs, Rp K H x d ∧ (Rp K H y (.list xs) ∨ Rp K H y (.tuple xs)) ∧ min (PyData.depthAll xs) d.depth ≤ 64 ∧ Q (.bl (neg != xs.any fun z => PyData.eqv z d)) H
section
variable {X : Cx}
theorem op_inA (hu : X.A.units + 70 < cLine) : OpR X (compareOp .In) (rInA X.K false) := by
  intro pins s σ H x y v u Q I rx ry ⟨d, xs, h1, h2, hs, q⟩
  obtain ⟨as, r1⟩ := h1.reads I rx
  have fin : EP X pins σ Q (.bool (xs.any fun z => PyData.eqv z d)) s := ⟨.bl _, H, I, rfl, by simpa using q⟩
  rcases h2 with h2 | h2
  · obtain ⟨bs, r2⟩ := h2.reads I ry
    exact SeqAt.in_list_data r2 r1 h2.plain h1.plain (by omega) fin
  · obtain ⟨bs, r2⟩ := h2.reads I ry
    exact SeqAt.in_tuple_data r2 r1 h2.plain h1.plain (by omega) fin
theorem op_notinA (hu : X.A.units + 70 < cLine) : OpR X (compareOp .NotIn) (rInA X.K true) := by
  intro pins s σ H x y v u Q I rx ry ⟨d, xs, h1, h2, hs, q⟩
  obtain ⟨as, r1⟩ := h1.reads I rx
  have fin : EP X pins σ Q (.bool (!xs.any fun z => PyData.eqv z d)) s := ⟨.bl _, H, I, rfl, by simpa using q⟩
  rcases h2 with h2 | h2
  · obtain ⟨bs, r2⟩ := h2.reads I ry
    exact SeqAt.notIn_list_data r2 r1 h2.plain h1.plain (by omega) fin
  · obtain ⟨bs, r2⟩ := h2.reads I ry
    exact SeqAt.notIn_tuple_data r2 r1 h2.plain h1.plain (by omega) fin
end

theorem one_sign {x : Str} (h : x.length = 1) : x = ⟨#[x.cps.getD 0 0]⟩ := by
  obtain ⟨c⟩ := x
  obtain ⟨l⟩ := c
  have h : l.length = 1 := h
  match l, h with
  | [a], _ => rfl
def rInS (neg : Bool) : R2 := fun x y H Q => ∃ (c : Nat) (z : Str), x = .str ⟨#[c]⟩ ∧ y = .str z ∧ Q (.bl (neg != decide (c ∈ z.cps.toList))) H
section
variable {X : Cx}
theorem op_inS : OpR X (compareOp .In) (rInS false) := by
  intro pins s σ H x y v u Q I rx ry ⟨c, z, h1, h2, q⟩
  exact op_in_sign pins s σ H x y v u Q I rx ry ⟨c, z, h1, h2, by simpa using q⟩
theorem op_notinS : OpR X (compareOp .NotIn) (rInS true) := by
  intro pins s σ H x y v u Q I rx ry ⟨c, z, h1, h2, q⟩
  exact op_notIn_sign pins s σ H x y v u Q I rx ry ⟨c, z, h1, h2, by simpa using q⟩
def rInB (K : PySem.W.Frag) (neg : Bool) : R2 := fun x y H Q => rInA K neg x y H Q ∨ rInS neg x y H Q
theorem or_in (hu : X.A.units + 70 < cLine) : OpR X (compareOp .In) (rInB X.K false) := (op_inA hu).or op_inS
theorem or_notin (hu : X.A.units + 70 < cLine) : OpR X (compareOp .NotIn) (rInB X.K true) := (op_notinA hu).or op_notinS
end
theorem ok_in {K : PySem.W.Frag} (neg : Bool) : Op2 K (rInB K neg) (fIn neg) := by
  intro F H x y d e rv Q s px py hf k
  cases e <;> simp only [fIn] at hf <;> try (cases hf; done)
  · cases d <;> simp only at hf <;> try (cases hf; done)
    split at hf
    · rename_i a b hz
      cases hf
      exact .inr ⟨_, _, by rw [px.str, ← one_sign hz], py.str, k _ _ _ (.val s (.bl _))⟩
    · cases hf
  · split at hf
    · rename_i hz
      cases hf
      exact .inl ⟨_, _, px.rpH s, .inl (py.rpH s), hz, k _ _ _ (.val s (.bl _))⟩
    · cases hf
  · split at hf
    · rename_i hz
      cases hf
      exact .inl ⟨_, _, px.rpH s, .inr (py.rpH s), hz, k _ _ _ (.val s (.bl _))⟩
    · cases hf
/-- is None -/
def fIs (neg : Bool) (d : D) : D → Option RV
  | .none => some (.fz (.bool (neg != isNon d)))
  | _ => none
def rIsN (neg : Bool) : R2 := fun x y H Q => y = .non ∧ Q (.bl (neg != decide (x = .non))) H
section
variable {X : Cx}
theorem op_isA : OpR X (compareOp .Is) (rIsN false) := by
  intro pins s σ H x y v u Q I rx ry ⟨e, q⟩
  exact op_isN pins s σ H x y v u Q I rx ry ⟨e, by simpa using q⟩
theorem op_isnotA : OpR X (compareOp .IsNot) (rIsN true) := by
  intro pins s σ H x y v u Q I rx ry ⟨e, q⟩
  exact op_notN pins s σ H x y v u Q I rx ry ⟨e, by simpa using q⟩
end
theorem Pk.isNon {K : PySem.W.Frag} {F H : Hp} {v : V} {d : D} (h : Pk K F H v d) : decide (v = .non) = isNon d := by
  rcases h with h | ⟨a, vs, xs, rfl, rfl, _, _⟩
  · cases h <;> simp [Pu.isNon]
  · simp [Pu.isNon]
theorem ok_is {K : PySem.W.Frag} (neg : Bool) : Op2 K (rIsN neg) (fIs neg) := by
  intro F H x y d e rv Q s px py hf k
  cases e <;> simp only [fIs] at hf <;> try (cases hf; done)
  cases hf
  refine ⟨py.non, ?_⟩
  rw [px.isNon]
  exact k _ _ _ (.val s (.bl _))

/-! ### one operand -/
def Op1 (K : PySem.W.Frag) (r : V → Hp → VK → Prop) (f : D → Option RV) : Prop := ∀ (F H : Hp) (x : V) (d : D) (rv : RV) (Q : VK), Sub F H → Pk K F H x d → f d = some rv → (∀ v F' H', Mk K F H v F' H' rv → Q v H') → r x H Q
theorem op1_in {w : Wi} {f : D → Option RV} {r : V → Hp → VK → Prop} {ma : M Hd} {σ : L2.St} {H : Hp} {Q : VK} (h2 : Op1 w.K r f) (h : tK w (mUn f ma) σ H Q) : tK w ma σ H fun x H1 => r x H1 Q := by
  obtain ⟨F, ρ, S, h⟩ := h
  refine ⟨F, ρ, S, (h.bind S).mono fun h1 ρ1 F1 H1 ⟨p, q⟩ x hx => ?_⟩
  unfold prim1 at q
  split at q
  · rename_i d ed
    split at q
    · rename_i rv ef
      exact h2 F1 H1 x d rv Q p.st.le (hx.pk p.st ed) ef fun v F' H' m => q.prim S p m
    · exact q.elim
  · exact q.elim
def fNeg : D → Option RV
  | .int i => some (.fz (.int (-i)))
  | _ => none
theorem ok_neg {K : PySem.W.Frag} : Op1 K (rU fun i => .int (-i)) fNeg := by
  intro F H x d rv Q s px hf k
  cases d <;> simp only [fNeg] at hf <;> try (cases hf; done)
  cases hf
  exact ⟨_, px.int, k _ _ _ (.val s (.int _))⟩
theorem se_neg {w : Wi} {X : Cx} {a : Expr} {pos : Pos} {m : M Hd} (ha : PE X a (tK w m)) : PE X (.UnaryOp .USub a pos) (tK w (mUn fNeg m)) := PEimp (pe_un un_neg ha) fun _ _ _ h => op1_in ok_neg h

/-! ### items -/
def fItem : D → D → Option RV
  | .list xs, .int i => (atI xs i).map .fz
  | .tuple xs, .int i => (atI xs i).map .fz
  | .str z, .int i => if z.length ≤ lim then (atI z.cps.toList i).map fun c => .fz (.str ⟨#[c]⟩) else none
  | _, _ => none
theorem atI_len {α β : Type} {xs : List α} {ys : List β} {i : Int} {y : β} (hl : xs.length = ys.length) (h : atI ys i = some y) : ∃ (j : Nat) (x : α), ys[j]? = some y ∧ xs[j]? = some x ∧ atI xs i = some x := by
  unfold atI at h ⊢
  rw [hl]
  cases e : ixN ys.length i with
  | none => rw [e] at h; cases h
  | some j =>
    rw [e] at h
    have h : ys[j]? = some y := h
    obtain ⟨hj, _⟩ := List.getElem?_eq_some_iff.mp h
    exact ⟨j, xs[j]'(by omega), h, List.getElem?_eq_getElem (by omega), List.getElem?_eq_getElem (by omega)⟩
theorem ok_item {K : PySem.W.Frag} : Op2 K (rIx K) fItem := by
  intro F H x y d e rv Q s px py hf k
  cases d <;> cases e <;> simp only [fItem] at hf <;> try (cases hf; done)
  · split at hf
    · rename_i z i hz
      cases ea : atI z.cps.toList i with
      | none => rw [ea] at hf; cases hf
      | some c =>
        rw [ea] at hf
        cases hf
        exact .inr (.inr ⟨z, i, c, px.str, py.int, lim_le hz, ea, k _ _ _ (.val s (.str _))⟩)
    · cases hf
  · rename_i xs i
    cases ea : atI xs i with
    | none => rw [ea] at hf; cases hf
    | some c =>
      rw [ea] at hf
      cases hf
      obtain ⟨a, vs, e1, q1, r1⟩ := px.lst s
      obtain ⟨j, v, hj, hv, hi⟩ := atI_len r1.length ea
      obtain ⟨v', hv', rp⟩ := r1.get hj
      rw [hv] at hv'
      cases hv'
      exact .inl ⟨a, vs, i, v, e1, py.int, .inl q1, hi, k _ _ _ (.val s rp)⟩
  · rename_i xs i
    cases ea : atI xs i with
    | none => rw [ea] at hf; cases hf
    | some c =>
      rw [ea] at hf
      cases hf
      obtain ⟨a, vs, e1, q1, r1⟩ := px.tup
      obtain ⟨j, v, hj, hv, hi⟩ := atI_len r1.length ea
      obtain ⟨v', hv', rp⟩ := r1.get hj
      rw [hv] at hv'
      cases hv'
      exact .inr (.inl ⟨a, vs, i, v, e1, py.int, s.sqT q1, hi, k _ _ _ (.val s rp)⟩)
theorem se_item {w : Wi} {X : Cx} {a b : Expr} {pos : Pos} {ma mb : M Hd} (hK : w.K = X.K) (ha : PE X a (tK w ma)) (hb : PE X b (tK w mb)) (hs : PlainIx b) : PE X (.Subscript a b pos) (tK w (mBin fItem ma mb)) :=
  PEimp (pe_ix ix_seq ha hb hs) fun _ _ _ h => op2_in (hK ▸ ok_item) h
/-! ### slices -/
def cutD {α : Type} (xs : List α) (lo hi : Option Int) : List α := (xs.drop (HT.sIx xs.length 0 lo)).take (HT.sIx xs.length xs.length hi - HT.sIx xs.length 0 lo)
def optI : Option D → Option (Option Int)
  | none => some none
  | some (.int i) => some (some i)
  | some _ => none
def fCut (d : D) (lo hi : Option Int) : Option RV := match d with
  | .list xs => some (.fr (cutD xs lo hi))
  | .tuple xs => some (.fz (.tuple (cutD xs lo hi)))
  | .str z => if z.length ≤ lim then some (.fz (.str (cutS z lo hi))) else none
  | _ => none
def rCut (K : PySem.W.Frag) : V → Option Int → Option Int → Hp → VK → Prop := fun x lo hi H Q => rSlL K x lo hi H Q ∨ rSlA K x lo hi H Q ∨ rSlS x lo hi H Q
theorem sl_cut {X : Cx} : SlR X (rCut X.K) := sl_list.or (sl_tupA.or sl_str)
theorem cut_whole {α : Type} {xs : List α} {lo hi : Option Int} (h : HT.sIx xs.length 0 lo = 0 ∧ HT.sIx xs.length xs.length hi = xs.length) : cutD xs lo hi = xs := by
  unfold cutD
  rw [h.1, h.2]
  simp
theorem RpAll.cut {K : PySem.W.Frag} {F : Hp} {vs : List V} {ds : List D} (lo hi : Option Int) (h : RpAll K F vs ds) : RpAll K F (cutV vs lo hi) (cutD ds lo hi) := by
  unfold cutV cutD
  rw [h.length]
  exact (h.drop _).take _
theorem ok_cut {K : PySem.W.Frag} {F H : Hp} {x : V} {d : D} {lo hi : Option Int} {rv : RV} {Q : VK} (s : Sub F H) (px : Pk K F H x d) (hf : fCut d lo hi = some rv) (k : ∀ v F' H', Mk K F H v F' H' rv → Q v H') : rCut K x lo hi H Q := by
  cases d <;> simp only [fCut] at hf <;> try (cases hf; done)
  · split at hf
    · rename_i z hz
      cases hf
      exact .inr (.inr ⟨z, px.str, lim_le hz, k _ _ _ (.val s (.str _))⟩)
    · cases hf
  · cases hf
    obtain ⟨a, vs, e1, q1, r1⟩ := px.lst s
    exact .inl ⟨a, vs, e1, .inl q1, fun p hp => k _ _ _ (.lst s hp (r1.cut lo hi))⟩
  · cases hf
    obtain ⟨a, vs, e1, q1, r1⟩ := px.tup
    refine .inr (.inl ⟨a, vs, e1, s.sqT q1, fun z => ?_, fun _ p hp => k _ _ _ (.tup s hp (r1.cut lo hi))⟩)
    rw [r1.length] at z
    rw [cut_whole z] at k
    exact k _ _ _ (.val s (.tup q1 r1))
end Pu
set_option Elab.async false
set_option linter.all false
set_option maxRecDepth 100000
set_option maxHeartbeats 1000000
/-! Pu4: the pure layer: slices, displays, shared values, calls of built-ins. -/
namespace Pu
open PySem L2 PyProof.Rows
/-! ### slices -/
def tO (w : Wi) (m : M (Option Int)) : TO := fun σ H Q => ∃ F ρ, St w.K F ρ σ H ∧ Wp w F ρ σ H (m ρ) fun o _ _ H' => Q o H'
def optM : Option (M Hd) → M (Option Int)
  | none => fun ρ => .ok none ρ
  | some m => fun ρ => (m ρ).bind fun h ρ' => match rd h ρ' with
    | some (.int i) => .ok (some i) ρ'
    | _ => .bad
def mCut (m : M Hd) (lo hi : M (Option Int)) : M Hd := fun ρ => (m ρ).bind fun h ρ1 => (lo ρ1).bind fun l ρ2 => (hi ρ2).bind fun u ρ3 => match rd h ρ3 with
  | some d => (match fCut d l u with
    | some r => .ok (.v r) ρ3
    | none => .bad)
  | none => .bad
section
variable {w : Wi} {X : Cx}
theorem so_none : PO X none (tO w (optM none)) := ⟨fun pins s σ H Q I ⟨F, ρ, S, h⟩ => po_none.run pins s σ H Q I (h.ok S)⟩
theorem so_some {e : Expr} {m : M Hd} (h : PE X e (tK w m)) : PO X (some e) (tO w (optM (some m))) := ⟨fun pins s σ H Q I ⟨F, ρ, S, q⟩ => (po_some h).run pins s σ H Q I (by
  refine ⟨F, ρ, S, (Wp.bind S q).mono fun k ρ1 F1 H1 ⟨p, q⟩ v hv => ?_⟩
  split at q
  · rename_i i e
    exact ⟨i, (hv.pk p.st e).int, q.ok p.st⟩
  · exact q.elim)⟩
theorem se_cut {e : Expr} {lo hi : Option Expr} {p2 pos : Pos} {m : M Hd} {ml mh : M (Option Int)} (hK : w.K = X.K) (he : PE X e (tK w m)) (hl : PO X lo (tO w ml)) (hh : PO X hi (tO w mh)) : PE X (.Subscript e (.Slice lo hi none p2) pos) (tK w (mCut m ml mh)) := by
  refine PEimp (pe_slice sl_cut he hl hh) fun σ H Q ⟨F, ρ, S, h⟩ => ?_
  refine ⟨F, ρ, S, (Wp.bind S h).mono fun k ρ1 F1 H1 ⟨p, q⟩ v hv => ⟨F1, ρ1, p.st, (Wp.bind p.st q).mono fun l ρ2 F2 H2 ⟨p2, q2⟩ => ⟨F2, ρ2, p2.st, (Wp.bind p2.st q2).mono fun u ρ3 F3 H3 ⟨p3, q3⟩ => ?_⟩⟩⟩
  have pp := p2.trans p.st p3
  split at q3
  · rename_i d ed
    split at q3
    · rename_i rv ef
      have hv3 := HdOk.carry S p pp hv
      exact hK ▸ ok_cut p3.st.le (hv3.pk p3.st ed) ef fun v F' H' m => q3.prim S (p.trans S pp) m
    · exact q3.elim
  · exact q3.elim
/-- xs[::-1] of a list or a tuple -/
def fRev : D → Option RV
  | .list xs => some (.fr xs.reverse)
  | .tuple xs => some (.fz (.tuple xs.reverse))
  | _ => none
theorem RpAll.reverse {K : PySem.W.Frag} {F : Hp} : ∀ {ds : List D} {vs : List V}, RpAll K F vs ds → RpAll K F vs.reverse ds.reverse
  | [], _, h => by cases h; exact .nil
  | d :: ds, _, h => by
    cases h with
    | cons a b =>
      rw [List.reverse_cons, List.reverse_cons]
      exact (RpAll.reverse b).append (.cons a .nil)
theorem places_back (n : Nat) : Builtin.Slice.slicePlaces ((n : Int) - 1) (-1) (-1) = n := by
  unfold Builtin.Slice.slicePlaces
  rw [if_neg (by decide), show -(-1 : Int) = 1 from rfl, Int.ediv_one]
  split <;> omega
theorem pick_back {α : Type} (xs : List α) : (List.range xs.length).filterMap (fun (k : Nat) => xs.toArray[(((xs.length : Int) - 1) + (k : Int) * -1).toNat]?) = xs.reverse := by
  have key : ∀ n, n ≤ xs.length → (List.range n).filterMap (fun (k : Nat) => xs.toArray[(((xs.length : Int) - 1) + (k : Int) * -1).toNat]?) = xs.reverse.take n := by
    intro n
    induction n with
    | zero => intro _; simp
    | succ n ih =>
      intro h
      rw [List.range_succ, List.filterMap_append, ih (by omega)]
      have e : (((xs.length : Int) - 1) + (n : Int) * -1).toNat = xs.length - 1 - n := by omega
      have e2 : xs.toArray[xs.length - 1 - n]? = some (xs[xs.length - 1 - n]'(by omega)) := by simp
      rw [List.take_add_one, List.getElem?_reverse (by omega)]
      simp only [List.filterMap_cons, List.filterMap_nil, e, e2]
      rw [List.getElem?_eq_getElem (by omega)]
      rfl
  have z := key xs.length (Nat.le_refl _)
  rw [z, ← List.length_reverse, List.take_length]
theorem getItem_tuple_back {prog : Program} {w : World} {A : Around} {E : Value → Shared → Prop} {s : Shared} {t sl : Addr} {its : List Value} {vs : Value} {Q : Value → Shared → Prop} (ht : IsTup s.heap t its.toArray) (hs : s.heap.IsSliceOf sl .none .none vs) (ps : IsPart vs (some (-1)))
    (h : Q (.ref s.heap.objs.size) { s with heap := s.heap.push { cls := .type "tuple", data := .seq its.reverse.toArray } }) (hsz : its.length ≤ sizeLine) : wpAny (model prog w) A (getItem (.ref t) (.ref sl)) Q E s := by
  have hz : sizeOk (.seq its.reverse.toArray) := by
    show its.reverse.toArray.size ≤ sizeLine
    rw [List.size_toArray, List.length_reverse]; exact hsz
  obtain ⟨os, hos, hcs, hds⟩ := id hs
  have hTs : s.TypeIs (.ref sl) "slice" := ⟨os, hos, hcs⟩
  unfold getItem
  try with_reducible refine wpAny_holding ?_
  first | refine wpAny_bind (wpAny_pure ?_) | skip
  refine wpAny_bind (wpAny_sequenceKey ht.typeIs (by decide) ?_)
  refine wpAny_bind (wpAny_callSpecial?_slot (name := Str.ofString "__getitem__") ht.typeIs PyProof.Rows.slot_tuple_getitem (wpAny_call_entry PyProof.Rows.slot_tuple_getitem ht.typeIs entry_tuple_getitem ?_ (args_tuple_getitem _ _)))
  show wpAny _ _ (Builtin.Tuple.tupleItemsOf (.ref t) >>= _) _ _ s
  refine wpAny_bind (tupleItemsOf_ ht ?_)
  refine wpAny_bind (wpAny_typeOf hTs ?_)
  rw [if_pos (by decide)]
  have hsl : ∀ {Q' : Int × Int × Nat → Shared → Prop} {E' : Value → Shared → Prop}, Q' ((its.length : Int) - 1, -1, its.length) s → wpAny (model prog w) (A.in1) (Builtin.Slice.sliceApplied (.ref sl) (pure ((its.toArray.size : Nat) : Int))) Q' E' s := fun {Q' E'} hq => by
    unfold Builtin.Slice.sliceApplied Builtin.Slice.sliceFields
    refine wpAny_bind (wpAny_bind (wpAny_field hos hds (x := .none) rfl (wpAny_bind (wpAny_field hos hds (x := .none) rfl (wpAny_bind (wpAny_field hos hds (x := vs) rfl (wpAny_pure ?_)))))))
    refine wpAny_bind (HT.slicePart_ ps ?_)
    show wpAny _ _ (if ((-1 : Int) == 0) = true then _ else _) _ _ s
    rw [if_neg (by decide)]
    refine wpAny_bind (HT.slicePart_ .none (wpAny_bind (HT.slicePart_ .none (wpAny_bind (wpAny_pure ?_)))))
    refine wpAny_pure ?_
    show Q' ((its.toArray.size : Int) - 1, -1, Builtin.Slice.slicePlaces ((its.toArray.size : Int) - 1) (-1) (-1)) s
    rw [List.size_toArray, places_back]
    exact hq
  refine wpAny_bind (hsl ?_)
  have hno : ¬ ((((its.length : Int) - 1 == 0 && (-1 : Int) == 1 && its.length == its.toArray.size)) = true) := by simp
  show wpAny _ _ (if ((((its.length : Int) - 1 == 0 && (-1 : Int) == 1 && its.length == its.toArray.size)) = true) then _ else _) _ _ s
  rw [if_neg hno, pick_back]
  first
    | exact wpAny_bind (m := Builtin.Tuple.tupleExact _) (wpAny_newObj_type (wpAny_pure ⟨_, rfl, wpAny_pure h⟩) hz)
    | exact wpAny_bind (m := Builtin.Tuple.tupleExact _) (wpAny_newObj_type (wpAny_bind (wpAny_pure (wpAny_pure ⟨_, rfl, wpAny_pure h⟩))) hz)
    | exact wpAny_bind (wpAny_bind (m := Builtin.Tuple.tupleExact _) (wpAny_newObj_type (wpAny_pure (wpAny_pure ⟨_, rfl, wpAny_pure h⟩)) hz))
    | exact wpAny_bind (wpAny_bind (m := Builtin.Tuple.tupleExact _) (wpAny_newObj_type (wpAny_pure ⟨_, rfl, wpAny_pure h⟩) hz))
def rRevA (K : PySem.W.Frag) : V → Hp → VK → Prop := fun x H Q => (∃ a xs, x = .ref a ∧ SqL K H a xs ∧ ∀ p, H p = none → Q (.ref p) (upd H p (.lst xs.reverse))) ∨ ∃ a xs, x = .ref a ∧ SqT K H a xs ∧ ∀ p, H p = none → Q (.ref p) (upd H p (.tup xs.reverse))
theorem pe_back {e : Expr} {te : TE} {k : Nat} {p1 p2 p3 pos : Pos} (he : PE X e te) : PE X (.Subscript e (.Slice none none (some (.UnaryOp .USub (.Constant (.int 1) k p1) p2)) p3) pos) (fun σ H Q => te σ H fun x H1 => rRevA X.K x H1 Q) := by
  refine ⟨fun pins s σ H Q I h => ?_⟩
  refine Subscript_ (thn (he.run pins s σ H _ I h) fun v s1 ⟨x, H1, I1, r1, q1⟩ => ?_)
  have hst : PO X (some (.UnaryOp .USub (.Constant (.int 1) k p1) p2)) (tPart (tUn (rU fun i => .int (-i)) (tC (.int 1)))) := po_some (pe_un un_neg pe_int)
  refine wpAny_Slice ?_
  rw [evalPart_none]
  refine wpAny_pure (wpAny_pure ?_)
  refine thn (hst.run pins s1 σ H1 (fun o H4 => o = some (-1) ∧ H4 = H1) I1 ⟨1, rfl, -1, rfl, rfl, rfl⟩) fun vs s4 ⟨o, H4, I4, ps, eo, e4⟩ => ?_
  subst eo e4
  have I5 : L2.Inv X pins σ H4 { s4 with heap := s4.heap.push { cls := .type "slice", data := .fields #[.none, .none, vs] } } := I4.kept (t' := s4.toks) fun b ob q => Heap.get?_push_of_some _ q
  rcases q1 with ⟨a, xs, ex, hx, q⟩ | ⟨a, xs, ex, hx, q⟩
  · subst ex
    cases r1
    obtain ⟨its, r, ht, hz⟩ := I5.list hx
    have hlen := r.length
    refine tail_any (ops := [.ref a, .ref s4.heap.objs.size]) ht.isList.typeIs (PySem.slot_list_getitem.lookup) ?_ (by with_unfolding_all rfl)
    refine wpAny_getItem_list_slice ht.isList (Heap.IsSliceOf.new _ .none .none vs) .none .none ps (by decide) ?_ (by rw [List.size_toArray]; omega)
    rw [PySem.W.krv_pick]
    refine ⟨.ref _, _, I5.laid (t' := s4.toks) (o := .lst xs.reverse) (fun b ob q => Heap.get?_push_of_some _ q) (Nat.le_refl _) ?_, rfl, q _ (I5.hok.fresh (Nat.le_refl _))⟩
    exact ⟨by rw [List.length_reverse]; exact hz, _, 0, r.reverse, Heap.get?_push_size _ rfl⟩
  · subst ex
    cases r1
    obtain ⟨its, r, ht, hz⟩ := I5.tuple hx
    have hlen := r.length
    refine tail_any (ops := [.ref a, .ref s4.heap.objs.size]) ht.typeIs (PyProof.Rows.slot_tuple_getitem.lookup) ?_ (by with_unfolding_all rfl)
    refine getItem_tuple_back ht (Heap.IsSliceOf.new _ .none .none vs) ps ?_ (by omega)
    refine ⟨.ref _, _, I5.laid (t' := s4.toks) (o := .tup xs.reverse) (fun b ob q => Heap.get?_push_of_some _ q) (Nat.le_refl _) ?_, rfl, q _ (I5.hok.fresh (Nat.le_refl _))⟩
    exact ⟨by rw [List.length_reverse]; exact hz, _, r.reverse, IsTup.new _ _⟩
theorem ok_rev {K : PySem.W.Frag} : Op1 K (rRevA K) fRev := by
  intro F H x d rv Q s px hf k
  cases d <;> simp only [fRev] at hf <;> try (cases hf; done)
  · cases hf
    obtain ⟨a, vs, e1, q1, r1⟩ := px.lst s
    exact .inl ⟨a, vs, e1, .inl q1, fun p hp => k _ _ _ (.lst s hp r1.reverse)⟩
  · cases hf
    obtain ⟨a, vs, e1, q1, r1⟩ := px.tup
    exact .inr ⟨a, vs, e1, s.sqT q1, fun p hp => k _ _ _ (.tup s hp r1.reverse)⟩
theorem se_back {e : Expr} {m : M Hd} {k : Nat} {p1 p2 p3 pos : Pos} (hK : w.K = X.K) (he : PE X e (tK w m)) : PE X (.Subscript e (.Slice none none (some (.UnaryOp .USub (.Constant (.int 1) k p1) p2)) p3) pos) (tK w (mUn fRev m)) :=
  PEimp (pe_back he) fun _ _ _ h => op1_in (hK ▸ ok_rev) h

/-! ### shared values -/
theorem StpE.freeze {K : PySem.W.Frag} {F F1 H H1 : Hp} {ρ ρ1 : Ev} {σ : L2.St} {a : Addr} {vs : List V} {xs : List D} (S : St K F ρ σ H) (p : StpE K F ρ σ H F1 ρ1 H1) (h0 : H a = none) (h1 : H1 a = some (.lst vs)) (hF : F1 a = none) (hr : RpAll K F1 vs xs) :
    StpE K F ρ σ H (upd F1 a (.lst vs)) ρ1 H1 := by
  have sF := sub_upd (o := HO.lst vs) hF
  have nm : ∀ {b : Addr}, Mu ρ1 σ b → b ≠ a := fun {b} m z => by
    obtain ⟨⟨us, e⟩, _⟩ := S.mu_some (p.mu m)
    rw [z, h0] at e; cases e
  refine ⟨⟨p.st.len, fun b o e => ?_, fun i s hs => ?_, p.st.inj⟩, p.le.trans sF, p.keep, p.dom, fun b o e => ?_, p.sl⟩
  · by_cases hb : b = a
    · subst hb; rw [upd_same] at e; cases e; exact h1
    · rw [upd_ne hb] at e; exact p.st.le _ _ e
  · obtain ⟨v, e, ok⟩ := p.st.slot i s hs
    refine ⟨v, e, ?_⟩
    cases s with
    | frz d => exact Rp.mono sF _ _ ok
    | own ys =>
      obtain ⟨b, us, e1, e2, e3, e4⟩ := ok
      subst e1
      exact ⟨b, us, rfl, e2, by rw [upd_ne (nm ⟨i, _, hs, rfl, e⟩)]; exact e3, RpAll.mono sF _ _ e4⟩
    | io ys =>
      obtain ⟨b, us, e1, e2, e3, e4⟩ := ok
      subst e1
      exact ⟨b, us, rfl, e2, by rw [upd_ne (nm ⟨i, _, hs, rfl, e⟩)]; exact e3, RpAll.mono sF _ _ e4⟩
  · by_cases hb : b = a
    · subst hb; exact .inr (.inl h0)
    · rw [upd_ne hb] at e; exact p.new _ _ e
theorem set_get {l : Ev} {i j : Nat} {x : Option Sl} {s : Sl} (h : (l.set i x)[j]? = some (some s)) : (j = i ∧ x = some s) ∨ (j ≠ i ∧ l[j]? = some (some s)) := by
  by_cases hj : i = j
  · subst hj
    by_cases hl : i < l.length
    · rw [List.getElem?_set_self hl] at h
      exact .inl ⟨rfl, Option.some.inj h⟩
    · rw [List.getElem?_eq_none (by simpa using hl)] at h; cases h
  · rw [List.getElem?_set_ne hj] at h
    exact .inr ⟨fun z => hj z.symm, h⟩
theorem StpE.share {K : PySem.W.Frag} {F H : Hp} {ρ : Ev} {σ : L2.St} {i : Nat} {xs : List D} (S : St K F ρ σ H) (hi : ρ[i]? = some (some (.own xs))) :
    ∃ a F', σ[i]? = some (some (.ref a)) ∧ StpE K F ρ σ H F' (ρ.set i (some (.frz (.list xs)))) H ∧ Rp K F' (.ref a) (.list xs) := by
  obtain ⟨v, ev, a, vs, e1, e2, e3, e4⟩ := S.slot i _ hi
  subst e1
  have sF := sub_upd (o := HO.lst vs) e3
  have mui : Mu ρ σ a := ⟨i, _, hi, rfl, ev⟩
  have rp : Rp K (upd F a (.lst vs)) (.ref a) (.list xs) := .lst (.inl upd_same) (RpAll.mono sF _ _ e4)
  refine ⟨a, upd F a (.lst vs), ev, ⟨⟨by rw [List.length_set]; exact S.len, fun b o e => ?_, fun j s hs => ?_, fun j k s t b hj hk ms mt ej ek => ?_⟩, sF, fun b o h _ => h, fun b h => h, fun b o e => ?_, fun j => ?_⟩, rp⟩
  · by_cases hb : b = a
    · subst hb; rw [upd_same] at e; cases e; exact e2
    · rw [upd_ne hb] at e; exact S.le _ _ e
  · rcases set_get hs with ⟨z, e⟩ | ⟨z, hs⟩
    · subst z; cases e
      exact ⟨.ref a, ev, rp⟩
    · obtain ⟨v, e, ok⟩ := S.slot j s hs
      refine ⟨v, e, ?_⟩
      have ne : ∀ {b : Addr}, s.mu = true → σ[j]? = some (some (.ref b)) → b ≠ a := fun {b} m ej z' => z (S.inj j i _ _ a hs hi m rfl (by rw [← z']; exact ej) ev)
      cases s with
      | frz d => exact Rp.mono sF _ _ ok
      | own ys =>
        obtain ⟨b, us, q1, q2, q3, q4⟩ := ok
        subst q1
        exact ⟨b, us, rfl, q2, by rw [upd_ne (ne rfl e)]; exact q3, RpAll.mono sF _ _ q4⟩
      | io ys =>
        obtain ⟨b, us, q1, q2, q3, q4⟩ := ok
        subst q1
        exact ⟨b, us, rfl, q2, by rw [upd_ne (ne rfl e)]; exact q3, RpAll.mono sF _ _ q4⟩
  · rcases set_get hj with ⟨z, e⟩ | ⟨z, hj⟩
    · cases e; cases ms
    · rcases set_get hk with ⟨z2, e⟩ | ⟨z2, hk⟩
      · cases e; cases mt
      · exact S.inj j k s t b hj hk ms mt ej ek
  · by_cases hb : b = a
    · subst hb; exact .inr (.inr mui)
    · rw [upd_ne hb] at e; exact .inl e
  · by_cases hj : j = i
    · subst hj
      rw [join_some.mpr hi, List.getElem?_set_self (List.getElem?_eq_some_iff.mp hi).1]
      exact .inr ⟨_, rfl⟩
    · rw [List.getElem?_set_ne (fun z => hj z.symm)]
      exact SlLe.refl _
theorem esc_in {m : M Hd} {σ : L2.St} {H : Hp} {Q : VK} (h : tK w (mEsc m) σ H Q) : tK w m σ H Q := by
  obtain ⟨F, ρ, S, h⟩ := h
  refine ⟨F, ρ, S, ?_⟩
  unfold mEsc at h
  cases e : m ρ with
  | bad => rw [e] at h; exact h
  | exc x ρ1 => rw [e] at h; exact h
  | ok k ρ1 =>
    rw [e] at h
    intro F1 H1 p v hv
    have h : Wp w F ρ σ H (esc k ρ1) fun h ρ' F' H' => ∀ v, HdOk w.K F' ρ' σ H H' v h → Q v H' := h
    cases k with
    | v r =>
      cases r with
      | fz d => exact h F1 H1 p v hv
      | fr xs =>
        obtain ⟨a, vs, rfl, h0, h1, hF, hr⟩ := hv
        exact h _ H1 (StpE.freeze S p h0 h1 hF hr) (.ref a) (.lst (.inl upd_same) (RpAll.mono (sub_upd hF) _ _ hr))
    | s i =>
      obtain ⟨ei, s, hs⟩ := hv
      unfold esc at h
      simp only [join_some.mpr hs] at h
      cases s with
      | frz d =>
        obtain ⟨v', ev', ok⟩ := p.st.slot i _ hs
        rw [ei] at ev'; cases ev'
        exact h F1 H1 p v ok
      | own xs =>
        obtain ⟨a, F', ea, q, rp⟩ := StpE.share p.st hs
        rw [ei] at ea; cases ea
        exact h F' H1 (p.trans S q) (.ref a) rp
      | io xs => exact h.elim
theorem se_esc {e : Expr} {m : M Hd} (h : PE X e (tK w m)) : PE X e (tK w (mEsc m)) := PEimp h fun _ _ _ q => esc_in q
theorem esr_in {m : M Hd} {σ : L2.St} {H : Hp} {Q : VK} (h : tK w (mEsr m) σ H Q) : tK w m σ H Q := by
  obtain ⟨F, ρ, S, h⟩ := h
  refine ⟨F, ρ, S, ?_⟩
  unfold mEsr at h
  cases e : m ρ with
  | bad => rw [e] at h; exact h
  | exc x ρ1 => rw [e] at h; exact h
  | ok k ρ1 =>
    rw [e] at h
    intro F1 H1 p v hv
    have h : Wp w F ρ σ H (esr k ρ1) fun h ρ' F' H' => ∀ v, HdOk w.K F' ρ' σ H H' v h → Q v H' := h
    cases k with
    | v r => exact h F1 H1 p v hv
    | s i =>
      obtain ⟨ei, s, hs⟩ := hv
      have h : Wp w F ρ σ H (esc (.s i) ρ1) fun h ρ' F' H' => ∀ v, HdOk w.K F' ρ' σ H H' v h → Q v H' := h
      unfold esc at h
      simp only [join_some.mpr hs] at h
      cases s with
      | frz d =>
        obtain ⟨v', ev', ok⟩ := p.st.slot i _ hs
        rw [ei] at ev'; cases ev'
        exact h F1 H1 p v ok
      | own xs =>
        obtain ⟨a, F', ea, q, rp⟩ := StpE.share p.st hs
        rw [ei] at ea; cases ea
        exact h F' H1 (p.trans S q) (.ref a) rp
      | io xs => exact h.elim
theorem se_esr {e : Expr} {m : M Hd} (h : PE X e (tK w m)) : PE X e (tK w (mEsr m)) := PEimp h fun _ _ _ q => esr_in q
end
end Pu
set_option Elab.async false
set_option linter.all false
set_option maxRecDepth 100000
set_option maxHeartbeats 1000000
/-! Pu5: the pure layer: displays, calls of built-ins, sorting. -/
namespace Pu
open PySem L2 PyProof.Rows
/-! ### displays -/
def fzs : List Hd → Option (List D)
  | [] => some []
  | .v (.fz d) :: hs => (fzs hs).map (d :: ·)
  | _ :: _ => none
theorem HdsOk.fzs {K : PySem.W.Frag} {F' H H' : Hp} {ρ' : Ev} {σ : L2.St} : ∀ {vs : List V} {hs : List Hd} {ds : List D}, HdsOk K F' ρ' σ H H' vs hs → fzs hs = some ds → RpAll K F' vs ds
  | [], [], _, _, e => by cases e; exact .nil
  | v :: vs, .v (.fz d) :: hs, ds, ⟨a, b, _⟩, e => by
    unfold Pu.fzs at e
    cases e2 : Pu.fzs hs with
    | none => rw [e2] at e; cases e
    | some es =>
      rw [e2] at e
      cases e
      exact .cons a (HdsOk.fzs b e2)
  | _ :: _, .v (.fr _) :: _, _, _, e => by cases e
  | _ :: _, .s _ :: _, _, _, e => by cases e
  | [], _ :: _, _, h, _ => h.elim
  | _ :: _, [], _, h, _ => h.elim
def primZ (f : List D → Option RV) (hs : List Hd) : M Hd := fun ρ => match fzs hs with
  | some ds => (match f ds with
    | some r => .ok (.v r) ρ
    | none => .bad)
  | none => .bad
def mDisp (f : List D → Option RV) (ms : List (M Hd)) : M Hd := fun ρ => (mArgs ms ρ).bind (primZ f)
def fTup (ds : List D) : Option RV := if ds.length ≤ lim then some (.fz (.tuple ds)) else none
def fLst (ds : List D) : Option RV := if ds.length ≤ lim then some (.fr ds) else none
def mTup (ms : List (M Hd)) : M Hd := mDisp fTup ms
def mLst (ms : List (M Hd)) : M Hd := mDisp fLst ms
section
variable {w : Wi} {X : Cx}
theorem se_tup {es : List Expr} {k : Nat} {pos : Pos} {ms : List (M Hd)} (ha : PA X es (tA w (mArgs ms))) : PE X (.Tuple es k pos) (tK w (mTup ms)) := by
  refine PEimp (pe_tup ha) fun σ H Q ⟨F, ρ, S, h⟩ => ⟨F, ρ, S, (Wp.bind S h).mono fun hs ρ1 F1 H1 ⟨p, q⟩ vs hv => ?_⟩
  unfold primZ fTup at q
  split at q
  · rename_i ds ed
    have r := hv.fzs ed
    split at q
    · rename_i rv ef
      split at ef
      · rename_i hz
        cases ef
        exact ⟨lim_le (by rw [r.length]; exact hz), fun a ha => q.prim S p (.tup p.st.le ha r)⟩
      · cases ef
    · exact q.elim
  · exact q.elim
theorem se_lst {es : List Expr} {pos : Pos} {ms : List (M Hd)} (ha : PA X es (tA w (mArgs ms))) : PE X (.List es pos) (tK w (mLst ms)) := by
  refine PEimp (pe_lst ha) fun σ H Q ⟨F, ρ, S, h⟩ => ⟨F, ρ, S, (Wp.bind S h).mono fun hs ρ1 F1 H1 ⟨p, q⟩ vs hv => ?_⟩
  unfold primZ fLst at q
  split at q
  · rename_i ds ed
    have r := hv.fzs ed
    split at q
    · rename_i rv ef
      split at ef
      · rename_i hz
        cases ef
        exact ⟨lim_le (by rw [r.length]; exact hz), fun a ha => q.prim S p (.lst p.st.le ha r)⟩
      · cases ef
    · exact q.elim
  · exact q.elim

/-! ### a built-in called with operands -/
theorem se_callB {r : List V → Hp → VK → Prop} {f : List D → Option RV} {id : String} {x : Str} {p pos : Pos} {e : Expr} {es : List Expr} {ms : List (M Hd)} (hc : CallR X (.builtin id) r) (h2 : OpN w.K r f) (hg : Gl X x) (hm : X.mg x = none) (hv : bootBuiltins x = some (.builtin id))
    (ha : PA X (e :: es) (tA w (mArgs ms))) (hn : x ≠ "__name__") (hdb : (x == ("__debug__" : Str)) = false) (he : starEach (e :: es) X.env = (false, eval e X.env) :: starEach es X.env) (hpl : (backTo pos (starEach es X.env)).any (·.1) = false) :
    PE X (.Call (.Name x p) (e :: es) [] pos) (tK w (mPrim f ms)) := PEimp (pe_callB hc hg hm hv ha hn hdb he hpl) fun _ _ _ h => opN_in h2 h
theorem se_callTy {r : List V → Hp → VK → Prop} {f : List D → Option RV} {id : String} {x : Str} {p pos : Pos} {e : Expr} {es : List Expr} {ms : List (M Hd)} (hc : CallR X (.type id) r) (h2 : OpN w.K r f) (hg : Gl X x) (hm : X.mg x = none) (hv : bootBuiltins x = some (.type id))
    (ha : PA X (e :: es) (tA w (mArgs ms))) (hn : x ≠ "__name__") (hdb : (x == ("__debug__" : Str)) = false) (he : starEach (e :: es) X.env = (false, eval e X.env) :: starEach es X.env) (hpl : (backTo pos (starEach es X.env)).any (·.1) = false) :
    PE X (.Call (.Name x p) (e :: es) [] pos) (tK w (mPrim f ms)) := PEimp (pe_callTy hc hg hm hv ha hn hdb he hpl) fun _ _ _ h => opN_in h2 h
end
theorem PkAll.one {K : PySem.W.Frag} {F H : Hp} {vs : List V} {d : D} (h : PkAll K F H vs [d]) : ∃ v, vs = [v] ∧ Pk K F H v d := by
  match vs, h with
  | [v], ⟨a, _⟩ => exact ⟨v, rfl, a⟩
theorem PkAll.two {K : PySem.W.Frag} {F H : Hp} {vs : List V} {d e : D} (h : PkAll K F H vs [d, e]) : ∃ v u, vs = [v, u] ∧ Pk K F H v d ∧ Pk K F H u e := by
  match vs, h with
  | [v, u], ⟨a, b, _⟩ => exact ⟨v, u, rfl, a, b⟩
def fLen : List D → Option RV
  | [.list xs] => some (.fz (.int xs.length))
  | [.tuple xs] => some (.fz (.int xs.length))
  | [.str x] => if x.length ≤ lim then some (.fz (.int x.length)) else none
  | _ => none
def rLenA (K : PySem.W.Frag) : List V → Hp → VK → Prop := fun xs H Q => ∃ x n, xs = [x] ∧ LenV K x H n ∧ Q (.int n) H
theorem ok_len {K : PySem.W.Frag} : OpN K (rLenA K) fLen := by
  intro F H vs ds rv Q s pv hf k
  unfold fLen at hf
  split at hf
  · rename_i xs
    cases hf
    obtain ⟨v, ev, pw⟩ := pv.one
    subst ev
    obtain ⟨a, us, e1, q1, r1⟩ := pw.lst s
    subst e1
    exact ⟨_, us.length, rfl, .inl ⟨us, .inl q1, rfl⟩, by rw [r1.length]; exact k _ _ _ (.val s (.int _))⟩
  · rename_i xs
    cases hf
    obtain ⟨v, ev, pw⟩ := pv.one
    subst ev
    obtain ⟨a, us, e1, q1, r1⟩ := pw.tup
    subst e1
    exact ⟨_, us.length, rfl, .inr ⟨us, s.sqT q1, rfl⟩, by rw [r1.length]; exact k _ _ _ (.val s (.int _))⟩
  · split at hf
    · rename_i hz
      cases hf
      obtain ⟨v, ev, pw⟩ := pv.one
      subst ev
      have e := pw.str
      subst e
      exact ⟨_, _, rfl, ⟨lim_le hz, rfl⟩, k _ _ _ (.val s (.int _))⟩
    · cases hf
  · cases hf
def fList : List D → Option RV
  | [.list xs] => some (.fr xs)
  | [.tuple xs] => some (.fr xs)
  | _ => none
def rListA (K : PySem.W.Frag) : List V → Hp → VK → Prop := fun xs H Q => ∃ p ys, xs = [.ref p] ∧ (SqL K H p ys ∨ SqT K H p ys) ∧ ∀ l, H l = none → Q (.ref l) (upd H l (.lst ys))
theorem ok_list {K : PySem.W.Frag} : OpN K (rListA K) fList := by
  intro F H vs ds rv Q s pv hf k
  unfold fList at hf
  split at hf
  · cases hf
    obtain ⟨v, ev, pw⟩ := pv.one
    subst ev
    obtain ⟨a, us, e1, q1, r1⟩ := pw.lst s
    subst e1
    exact ⟨_, us, rfl, .inl (.inl q1), fun p hp => k _ _ _ (.lst s hp r1)⟩
  · cases hf
    obtain ⟨v, ev, pw⟩ := pv.one
    subst ev
    obtain ⟨a, us, e1, q1, r1⟩ := pw.tup
    subst e1
    exact ⟨_, us, rfl, .inr (s.sqT q1), fun p hp => k _ _ _ (.lst s hp r1)⟩
  · cases hf
def fTuple : List D → Option RV
  | [.list xs] => some (.fz (.tuple xs))
  | [.tuple xs] => some (.fz (.tuple xs))
  | _ => none
def rTupleA (K : PySem.W.Frag) : List V → Hp → VK → Prop := fun xs H Q => ∃ p ys, xs = [.ref p] ∧ ((SqL K H p ys ∧ ∀ l, H l = none → Q (.ref l) (upd H l (.tup ys))) ∨ (SqT K H p ys ∧ Q (.ref p) H))
theorem ok_tuple {K : PySem.W.Frag} : OpN K (rTupleA K) fTuple := by
  intro F H vs ds rv Q s pv hf k
  unfold fTuple at hf
  split at hf
  · cases hf
    obtain ⟨v, ev, pw⟩ := pv.one
    subst ev
    obtain ⟨a, us, e1, q1, r1⟩ := pw.lst s
    subst e1
    exact ⟨_, us, rfl, .inl ⟨.inl q1, fun p hp => k _ _ _ (.tup s hp r1)⟩⟩
  · cases hf
    obtain ⟨v, ev, pw⟩ := pv.one
    subst ev
    obtain ⟨a, us, e1, q1, r1⟩ := pw.tup
    subst e1
    exact ⟨_, us, rfl, .inr ⟨s.sqT q1, k _ _ _ (.val s (.tup q1 r1))⟩⟩
  · cases hf
def asBools : List D → Option (List Bool)
  | [] => some []
  | .bool b :: ds => (asBools ds).map (b :: ·)
  | _ => none
theorem asBools_map : ∀ {ds : List D} {bs : List Bool}, asBools ds = some bs → ds = bs.map PyData.bool
  | [], _, e => by cases e; rfl
  | .bool b :: ds, bs, e => by
    unfold asBools at e
    cases e2 : asBools ds with
    | none => rw [e2] at e; cases e
    | some cs => rw [e2] at e; cases e; rw [asBools_map e2]; rfl
  | .none :: _, _, e => by cases e
  | .int _ :: _, _, e => by cases e
  | .str _ :: _, _, e => by cases e
  | .list _ :: _, _, e => by cases e
  | .tuple _ :: _, _, e => by cases e
  | .dict _ :: _, _, e => by cases e
theorem RpAll.bools {K : PySem.W.Frag} {F : Hp} : ∀ {bs : List Bool} {vs : List V}, RpAll K F vs (bs.map PyData.bool) → vs = bs.map V.bl
  | [], _, h => by cases h; rfl
  | b :: bs, _, h => by
    cases h with
    | cons a c => cases a; rw [RpAll.bools c]; rfl
theorem RpAll.intsV {K : PySem.W.Frag} {F : Hp} : ∀ {bs : List Int} {vs : List V}, RpAll K F vs (bs.map PyData.int) → vs = bs.map V.int
  | [], _, h => by cases h; rfl
  | b :: bs, _, h => by
    cases h with
    | cons a c => cases a; rw [RpAll.intsV c]; rfl
def asInts : List D → Option (List Int)
  | [] => some []
  | .int b :: ds => (asInts ds).map (b :: ·)
  | _ => none
theorem asInts_map : ∀ {ds : List D} {bs : List Int}, asInts ds = some bs → ds = bs.map PyData.int
  | [], _, e => by cases e; rfl
  | .int b :: ds, bs, e => by
    unfold asInts at e
    cases e2 : asInts ds with
    | none => rw [e2] at e; cases e
    | some cs => rw [e2] at e; cases e; rw [asInts_map e2]; rfl
  | .none :: _, _, e => by cases e
  | .bool _ :: _, _, e => by cases e
  | .str _ :: _, _, e => by cases e
  | .list _ :: _, _, e => by cases e
  | .tuple _ :: _, _, e => by cases e
  | .dict _ :: _, _, e => by cases e
theorem asInts_of (bs : List Int) : asInts (bs.map PyData.int) = some bs := by
  induction bs with
  | nil => rfl
  | cons b bs ih => simp only [List.map_cons, asInts, ih, Option.map_some]
theorem asBools_of (bs : List Bool) : asBools (bs.map PyData.bool) = some bs := by
  induction bs with
  | nil => rfl
  | cons b bs ih => simp only [List.map_cons, asBools, ih, Option.map_some]
def fAll : List D → Option RV
  | [.list xs] => (asBools xs).map fun bs => .fz (.bool (bs.all id))
  | _ => none
def fAny : List D → Option RV
  | [.list xs] => (asBools xs).map fun bs => .fz (.bool (bs.any id))
  | _ => none
theorem ok_all {K : PySem.W.Frag} : OpN K (rAll K) fAll := by
  intro F H vs ds rv Q s pv hf k
  unfold fAll at hf
  split at hf
  · rename_i xs
    cases e : asBools xs with
    | none => rw [e] at hf; cases hf
    | some bs =>
      rw [e] at hf
      cases hf
      obtain ⟨v, ev, pw⟩ := pv.one
      subst ev
      obtain ⟨a, us, e1, q1, r1⟩ := pw.lst s
      subst e1
      rw [asBools_map e] at r1
      rw [r1.bools] at q1
      exact ⟨a, bs, rfl, .inl q1, k _ _ _ (.val s (.bl _))⟩
  · cases hf
theorem ok_any {K : PySem.W.Frag} : OpN K (rAny K) fAny := by
  intro F H vs ds rv Q s pv hf k
  unfold fAny at hf
  split at hf
  · rename_i xs
    cases e : asBools xs with
    | none => rw [e] at hf; cases hf
    | some bs =>
      rw [e] at hf
      cases hf
      obtain ⟨v, ev, pw⟩ := pv.one
      subst ev
      obtain ⟨a, us, e1, q1, r1⟩ := pw.lst s
      subst e1
      rw [asBools_map e] at r1
      rw [r1.bools] at q1
      exact ⟨a, bs, rfl, .inl q1, k _ _ _ (.val s (.bl _))⟩
  · cases hf
def fSum : List D → Option RV
  | [.list xs] => (asInts xs).map fun bs => .fz (.int bs.sum)
  | _ => none
theorem ok_sum {K : PySem.W.Frag} : OpN K (rSum K) fSum := by
  intro F H vs ds rv Q s pv hf k
  unfold fSum at hf
  split at hf
  · rename_i xs
    cases e : asInts xs with
    | none => rw [e] at hf; cases hf
    | some bs =>
      rw [e] at hf
      cases hf
      obtain ⟨v, ev, pw⟩ := pv.one
      subst ev
      obtain ⟨a, us, e1, q1, r1⟩ := pw.lst s
      subst e1
      rw [asInts_map e] at r1
      rw [r1.intsV] at q1
      exact ⟨a, bs, rfl, .inl q1, k _ _ _ (.val s (.int _))⟩
  · cases hf
def maxL (a : Int) (l : List Int) : Int := l.foldl (fun m y => if m < y then y else m) a
def minL (a : Int) (l : List Int) : Int := l.foldl (fun m y => if y < m then y else m) a
theorem maxL_spec : ∀ (l : List Int) (a : Int), (maxL a l = a ∨ maxL a l ∈ l) ∧ a ≤ maxL a l ∧ ∀ y ∈ l, y ≤ maxL a l
  | [], a => ⟨.inl rfl, Int.le_refl _, fun _ h => nomatch h⟩
  | b :: l, a => by
    have e : maxL a (b :: l) = maxL (if a < b then b else a) l := rfl
    rw [e]
    obtain ⟨h1, h2, h3⟩ := maxL_spec l (if a < b then b else a)
    refine ⟨?_, ?_, fun y hy => ?_⟩
    · rcases h1 with h1 | h1
      · rw [h1]
        split
        · exact .inr List.mem_cons_self
        · exact .inl rfl
      · exact .inr (List.mem_cons_of_mem _ h1)
    · split at h2 <;> rename_i c <;> simp only [c, if_true, if_false] <;> omega
    · rcases List.mem_cons.mp hy with rfl | hy
      · split at h2 <;> rename_i c <;> simp only [c, if_true, if_false] <;> omega
      · exact h3 y hy
theorem minL_spec : ∀ (l : List Int) (a : Int), (minL a l = a ∨ minL a l ∈ l) ∧ minL a l ≤ a ∧ ∀ y ∈ l, minL a l ≤ y
  | [], a => ⟨.inl rfl, Int.le_refl _, fun _ h => nomatch h⟩
  | b :: l, a => by
    have e : minL a (b :: l) = minL (if b < a then b else a) l := rfl
    rw [e]
    obtain ⟨h1, h2, h3⟩ := minL_spec l (if b < a then b else a)
    refine ⟨?_, ?_, fun y hy => ?_⟩
    · rcases h1 with h1 | h1
      · rw [h1]
        split
        · exact .inr List.mem_cons_self
        · exact .inl rfl
      · exact .inr (List.mem_cons_of_mem _ h1)
    · split at h2 <;> rename_i c <;> simp only [c, if_true, if_false] <;> omega
    · rcases List.mem_cons.mp hy with rfl | hy
      · split at h2 <;> rename_i c <;> simp only [c, if_true, if_false] <;> omega
      · exact h3 y hy
def fMax : List D → Option RV
  | [.list xs] => (match asInts xs with
    | some (a :: l) => some (.fz (.int (maxL a l)))
    | _ => none)
  | [.int i, .int j] => some (.fz (.int (if j > i then j else i)))
  | _ => none
def fMin : List D → Option RV
  | [.list xs] => (match asInts xs with
    | some (a :: l) => some (.fz (.int (minL a l)))
    | _ => none)
  | [.int i, .int j] => some (.fz (.int (if j < i then j else i)))
  | _ => none
def rMaxA (K : PySem.W.Frag) : List V → Hp → VK → Prop := fun xs H Q => rMax K xs H Q ∨ ∃ i j, xs = [.int i, .int j] ∧ Q (.int (if j > i then j else i)) H
def rMinA (K : PySem.W.Frag) : List V → Hp → VK → Prop := fun xs H Q => rMin K xs H Q ∨ ∃ i j, xs = [.int i, .int j] ∧ Q (.int (if j < i then j else i)) H
theorem max_one {m a : Int} {l : List Int} (h : m ∈ a :: l) (g : ∀ y, y ∈ a :: l → y ≤ m) : m = maxL a l := by
  obtain ⟨h1, h2, h3⟩ := maxL_spec l a
  have g1 : maxL a l ≤ m := g _ (by rcases h1 with h1 | h1; rw [h1]; exact List.mem_cons_self; exact List.mem_cons_of_mem _ h1)
  have g2 : m ≤ maxL a l := by
    rcases List.mem_cons.mp h with h | h
    · rw [h]; exact h2
    · exact h3 m h
  omega
theorem min_one {m a : Int} {l : List Int} (h : m ∈ a :: l) (g : ∀ y, y ∈ a :: l → m ≤ y) : m = minL a l := by
  obtain ⟨h1, h2, h3⟩ := minL_spec l a
  have g1 : m ≤ minL a l := g _ (by rcases h1 with h1 | h1; rw [h1]; exact List.mem_cons_self; exact List.mem_cons_of_mem _ h1)
  have g2 : minL a l ≤ m := by
    rcases List.mem_cons.mp h with h | h
    · rw [h]; exact h2
    · exact h3 m h
  omega
theorem ok_max {K : PySem.W.Frag} : OpN K (rMaxA K) fMax := by
  intro F H vs ds rv Q s pv hf k
  unfold fMax at hf
  split at hf
  · rename_i xs
    split at hf
    · rename_i b l e
      cases hf
      obtain ⟨v, ev, pw⟩ := pv.one
      subst ev
      obtain ⟨a, us, e1, q1, r1⟩ := pw.lst s
      subst e1
      rw [asInts_map e] at r1
      rw [r1.intsV] at q1
      refine .inl ⟨a, b :: l, rfl, .inl q1, by simp, fun m hm g => ?_⟩
      rw [max_one hm g]
      exact k _ _ _ (.val s (.int _))
    · cases hf
  · cases hf
    obtain ⟨v, u, ev, p1, p2⟩ := pv.two
    subst ev
    exact .inr ⟨_, _, by rw [p1.int, p2.int], k _ _ _ (.val s (.int _))⟩
  · cases hf
theorem ok_min {K : PySem.W.Frag} : OpN K (rMinA K) fMin := by
  intro F H vs ds rv Q s pv hf k
  unfold fMin at hf
  split at hf
  · rename_i xs
    split at hf
    · rename_i b l e
      cases hf
      obtain ⟨v, ev, pw⟩ := pv.one
      subst ev
      obtain ⟨a, us, e1, q1, r1⟩ := pw.lst s
      subst e1
      rw [asInts_map e] at r1
      rw [r1.intsV] at q1
      refine .inl ⟨a, b :: l, rfl, .inl q1, by simp, fun m hm g => ?_⟩
      rw [min_one hm g]
      exact k _ _ _ (.val s (.int _))
    · cases hf
  · cases hf
    obtain ⟨v, u, ev, p1, p2⟩ := pv.two
    subst ev
    exact .inr ⟨_, _, by rw [p1.int, p2.int], k _ _ _ (.val s (.int _))⟩
  · cases hf
def fAbs : List D → Option RV
  | [.int i] => some (.fz (.int (if i < 0 then -i else i)))
  | _ => none
theorem ok_abs {K : PySem.W.Frag} : OpN K (fun xs H Q => ∃ i, xs = [.int i] ∧ Q (.int (if i < 0 then -i else i)) H) fAbs := by
  intro F H vs ds rv Q s pv hf k
  unfold fAbs at hf
  split at hf
  · cases hf
    obtain ⟨v, ev, pw⟩ := pv.one
    subst ev
    exact ⟨_, by rw [pw.int], k _ _ _ (.val s (.int _))⟩
  · cases hf
def fInt : List D → Option RV
  | [.int i] => some (.fz (.int i))
  | [.bool b] => some (.fz (.int (if b then 1 else 0)))
  | [.str x] => if x.length ≤ 640 then (PySem.intText? x).map fun n => .fz (.int n) else none
  | _ => none
def fStr : List D → Option RV
  | [.int i] => if i.natAbs.log2 < 1920 then some (.fz (.str (toString i))) else none
  | _ => none
theorem ok_str {K : PySem.W.Frag} : OpN K (fun xs H Q => ∃ i, xs = [.int i] ∧ i.natAbs.log2 < 1920 ∧ Q (.str (toString i)) H) fStr := by
  intro F H vs ds rv Q s pv hf k
  unfold fStr at hf
  split at hf
  · split at hf
    · rename_i hz
      cases hf
      obtain ⟨v, ev, pw⟩ := pv.one
      subst ev
      exact ⟨_, by rw [pw.int], hz, k _ _ _ (.val s (.str _))⟩
    · cases hf
  · cases hf
def fOrdC : List D → Option RV
  | [.str x] => if x.length = 1 then some (.fz (.int (x.cps.getD 0 0 : Nat))) else none
  | _ => none
theorem ok_ordC {K : PySem.W.Frag} : OpN K (fun xs H Q => ∃ x, xs = [.str x] ∧ x.length = 1 ∧ Q (.int (x.cps.getD 0 0 : Nat)) H) fOrdC := by
  intro F H vs ds rv Q s pv hf k
  unfold fOrdC at hf
  split at hf
  · split at hf
    · rename_i hz
      cases hf
      obtain ⟨v, ev, pw⟩ := pv.one
      subst ev
      exact ⟨_, by rw [pw.str], hz, k _ _ _ (.val s (.int _))⟩
    · cases hf
  · cases hf

def rIntA : List V → Hp → VK → Prop := fun xs H Q => ((∃ i, xs = [.int i] ∧ Q (.int i) H) ∨ ∃ k, xs = [.bl k] ∧ Q (.int (if k then 1 else 0)) H) ∨ ∃ a n, xs = [.str a] ∧ PySem.intText? a = some n ∧ a.length ≤ 640 ∧ Q (.int n) H
theorem or_int {X : Cx} : CallR X (.type "int") rIntA := call_int1.or call_int_str
theorem ok_int {K : PySem.W.Frag} : OpN K rIntA fInt := by
  intro F H vs ds rv Q s pv hf k
  unfold fInt at hf
  split at hf
  · cases hf
    obtain ⟨v, ev, pw⟩ := pv.one
    subst ev
    exact .inl (.inl ⟨_, by rw [pw.int], k _ _ _ (.val s (.int _))⟩)
  · cases hf
    obtain ⟨v, ev, pw⟩ := pv.one
    subst ev
    exact .inl (.inr ⟨_, by rw [pw.bl], k _ _ _ (.val s (.int _))⟩)
  · split at hf
    · rename_i x hz
      cases e : PySem.intText? x with
      | none => rw [e] at hf; cases hf
      | some n =>
        rw [e] at hf
        cases hf
        obtain ⟨v, ev, pw⟩ := pv.one
        subst ev
        exact .inr ⟨x, n, by rw [pw.str], e, hz, k _ _ _ (.val s (.int _))⟩
    · cases hf
  · cases hf
/-! ### sorted -/
section
variable {α : Type}
def ins (le : α → α → Bool) (a : α) : List α → List α
  | [] => [a]
  | b :: l => if le a b then a :: b :: l else b :: ins le a l
def isort (le : α → α → Bool) : List α → List α
  | [] => []
  | a :: l => ins le a (isort le l)
variable {le : α → α → Bool}
theorem ins_mem {a x : α} : ∀ {l : List α}, x ∈ ins le a l ↔ x = a ∨ x ∈ l
  | [] => by simp [ins]
  | b :: l => by
    unfold ins
    split
    · simp
    · rw [List.mem_cons, ins_mem, List.mem_cons]
      constructor
      · rintro (h | h | h)
        · exact .inr (.inl h)
        · exact .inl h
        · exact .inr (.inr h)
      · rintro (h | h | h)
        · exact .inr (.inl h)
        · exact .inl h
        · exact .inr (.inr h)
theorem ins_sorted (T : PySem.W.TotalLe le) {a : α} : ∀ {l : List α}, l.Pairwise (fun a b => le a b = true) → (ins le a l).Pairwise (fun a b => le a b = true)
  | [], _ => by simp [ins]
  | b :: l, h => by
    have h1 : ∀ x, x ∈ l → le b x = true := fun x hx => List.rel_of_pairwise_cons h hx
    have h2 := List.Pairwise.of_cons h
    unfold ins
    split
    · rename_i c
      refine List.pairwise_cons.mpr ⟨fun x hx => ?_, h⟩
      rcases List.mem_cons.mp hx with e | hx
      · rw [e]; exact c
      · exact T.trans _ _ _ c (h1 x hx)
    · rename_i c
      refine List.pairwise_cons.mpr ⟨fun x hx => ?_, ins_sorted T h2⟩
      rcases ins_mem.mp hx with e | hx
      · rw [e]
        rcases T.total b a with q | q
        · exact q
        · exact absurd q c
      · exact h1 x hx
theorem isort_sorted (T : PySem.W.TotalLe le) : ∀ l : List α, (isort le l).Pairwise (fun a b => le a b = true)
  | [] => .nil
  | a :: l => ins_sorted T (isort_sorted T l)
theorem ins_filter (T : PySem.W.TotalLe le) (c a : α) : ∀ l : List α, (ins le a l).filter (PySem.W.sameRank le c) = (a :: l).filter (PySem.W.sameRank le c)
  | [] => rfl
  | b :: l => by
    unfold ins
    split
    · rfl
    · rename_i h
      have ih := ins_filter T c a l
      rw [List.filter_cons, ih]
      by_cases ha : PySem.W.sameRank le c a = true
      · by_cases hb : PySem.W.sameRank le c b = true
        · exfalso
          unfold PySem.W.sameRank at ha hb
          rw [Bool.and_eq_true] at ha hb
          exact h (T.trans _ _ _ ha.2 hb.1)
        · simp [List.filter_cons, ha, hb]
      · simp [List.filter_cons, ha]
theorem isort_filter (T : PySem.W.TotalLe le) (c : α) : ∀ l : List α, (isort le l).filter (PySem.W.sameRank le c) = l.filter (PySem.W.sameRank le c)
  | [] => rfl
  | a :: l => by
    have ih := isort_filter T c l
    show (ins le a (isort le l)).filter _ = _
    rw [ins_filter T, List.filter_cons, List.filter_cons, ih]
theorem isort_eq (T : PySem.W.TotalLe le) (l : List α) : isort le l = l.mergeSort le := PySem.W.sort_unique T (isort_sorted T l) fun c => isort_filter T c l
theorem isort_map {β : Type} (f : β → α) : ∀ l : List β, (isort (fun a b => le (f a) (f b)) l).map f = isort le (l.map f)
  | [] => rfl
  | a :: l => by
    have ih := isort_map f l
    have q : ∀ m : List β, (ins (fun a b => le (f a) (f b)) a m).map f = ins le (f a) (m.map f) := by
      intro m
      induction m with
      | nil => rfl
      | cons b m im =>
        unfold ins
        show _ = if le (f a) (f b) = true then _ else _
        split
        · rfl
        · rw [List.map_cons, im]
    show (ins _ a (isort _ l)).map f = ins le (f a) (isort le (l.map f))
    rw [q, ih]
theorem isort_mem {x : α} : ∀ {l : List α}, x ∈ isort le l ↔ x ∈ l
  | [] => Iff.rfl
  | a :: l => by
    show x ∈ ins le a (isort le l) ↔ _
    rw [ins_mem, isort_mem, List.mem_cons]
theorem isort_perm : ∀ l : List α, (isort le l).Perm l
  | [] => .nil
  | a :: l => by
    have ih := isort_perm l
    have q : ∀ m : List α, (ins le a m).Perm (a :: m) := by
      intro m
      induction m with
      | nil => exact .refl _
      | cons b m im =>
        unfold ins
        split
        · exact .refl _
        · exact (im.cons b).trans (.swap a b m)
    exact (q _).trans (ih.cons a)
end
def leD (a b : D) : Bool := !PySem.W.dataLt b a
def sortsOk (ds : List D) : Bool := (ds.all fun d => ds.all fun e => PySem.W.alike d e) && (ds.all fun d => decide (d.depth ≤ 60)) && decide (ds.length ≤ lim) &&
  ((ds.all fun d => match d with | .tuple (_ :: _) => true | _ => false) || (ds.all fun d => match d with | .tuple _ => false | .none => false | _ => true))
def fSorted : List D → Option RV
  | [.list xs] => if sortsOk xs = true then some (.fr (isort leD xs)) else none
  | _ => none
theorem sortsOk_of {ds : List D} (h : sortsOk ds = true) : PySem.W.AllAlike ds ∧ PySem.W.Sortable ds ∧ (∀ d ∈ ds, d.depth ≤ 60) ∧ ds.length ≤ lim := by
  unfold sortsOk at h
  simp only [Bool.and_eq_true, List.all_eq_true, decide_eq_true_eq, Bool.or_eq_true] at h
  obtain ⟨⟨⟨h1, h2⟩, h3⟩, h4⟩ := h
  refine ⟨fun d hd e he => h1 d hd e he, ?_, h2, h3⟩
  rcases h4 with h4 | h4
  · refine .inl fun d hd => ?_
    have q := h4 d hd
    split at q
    · exact ⟨_, _, rfl⟩
    · cases q
  · refine .inr fun d hd => ?_
    have q := h4 d hd
    split at q
    · cases q
    · cases q
    · rename_i n1 n2
      exact ⟨fun e => n2 e, fun xs e => n1 xs e⟩
def rSortA (K : PySem.W.Frag) : List V → Hp → VK → Prop := fun vs H Q => ∃ a xs ds, vs = [.ref a] ∧ Rd H a (.lst xs) ∧ RpAll K H xs ds ∧ sortsOk ds = true ∧ ∀ p, H p = none → Q (.ref p) (upd H p (.lst ((isort (fun a b => leD a.2 b.2) (xs.zip ds)).map Prod.fst)))
theorem vals_zip {R : V → D → Prop} : ∀ {xs : List V} {ds : List D} {us : List Value}, Vals xs us → xs.length = ds.length → PySem.W.EachIs (fun u b => RelV b.1 u) us (xs.zip ds)
  | [], [], _, .nil, _ => .nil
  | x :: xs, d :: ds, _, .cons r t, h => .cons r (vals_zip (R := R) t (by simpa using h))
  | [], _ :: _, _, _, h => by cases h
  | _ :: _, [], _, _, h => by cases h
theorem each_vals : ∀ {us : List Value} {bs : List (V × D)}, PySem.W.EachIs (fun u b => RelV b.1 u) us bs → Vals (bs.map Prod.fst) us
  | _, _, .nil => .nil
  | _, _, .cons r t => .cons r (each_vals t)
theorem zip_reads {X : Cx} {pins : List (Addr × Obj)} {σ : L2.St} {H : Hp} {s : Shared} (I : L2.Inv X pins σ H s) : ∀ {xs : List V} {ds : List D} {us : List Value}, Vals xs us → RpAll X.K H xs ds → PySem.W.EachIs (fun u b => ∃ as, Reads s.heap u b.2 as) us (xs.zip ds)
  | [], [], _, .nil, _ => .nil
  | x :: xs, d :: ds, _, .cons r t, h => by
    cases h with
    | cons a b => exact .cons (a.reads I r) (zip_reads I t b)
  | [], _ :: _, _, _, h => by cases h
  | _ :: _, [], _, _, h => by cases h
theorem leD_total : PySem.W.TotalLe leD := PySem.W.sortLe_total (listOrd itemOrd) false PySem.W.keyToks
theorem call_sortA {X : Cx} (hu : X.A.units + 70 < cLine) : CallR X (.builtin "sorted") (rSortA X.K) := by
  intro pins s σ H vs us Q I rs ⟨a, xs, ds, e, hx, hr, ok, q⟩
  subst e
  obtain ⟨h1, h2, h3, h4⟩ := sortsOk_of ok
  have eu := rs.ref1
  subst eu
  obtain ⟨hz, its, n, rv, hl, ho⟩ := Inv.rdL I hx
  have hl2 : xs.length = ds.length := hr.length
  have em : (xs.zip ds).map Prod.snd = ds := List.map_snd_zip (by omega)
  have el : (xs.zip ds).length = ds.length := by rw [List.length_zip]; omega
  refine PySem.W.sorted_data (enc := Prod.snd) (bs := xs.zip ds) (R := fun u b => RelV b.1 u) ⟨_, ho, rfl, n, rfl⟩ (vals_zip (R := fun _ _ => True) rv hl2) (zip_reads I rv hr) (by rw [em]; exact h1) (by rw [em]; exact h2) (by rw [el]; exact lim_le h4) (fun b hb => ?_) fun out ol oe => ?_
  · have z := h3 b.2 (List.of_mem_zip hb).2
    omega
  · have e2 : (xs.zip ds).mergeSort (PySem.W.dataLe false Prod.snd) = isort (fun a b => leD a.2 b.2) (xs.zip ds) := (isort_eq (PySem.W.sortLe_total (listOrd itemOrd) false fun b : V × D => PySem.W.keyToks b.2) _).symm
    rw [e2] at oe
    obtain ⟨c, ec⟩ := sortedAll_at s.heap its out.toArray
    have z2 : ((isort (fun a b => leD a.2 b.2) (xs.zip ds)).map Prod.fst).length ≤ sizeLine := by
      rw [List.length_map, ← oe.length, ol, el]; exact lim_le h4
    refine ⟨.ref (s.heap.objs.size + 1), upd H (s.heap.objs.size + 1) (.lst ((isort (fun a b => leD a.2 b.2) (xs.zip ds)).map Prod.fst)), I.laid (t' := s.toks) (fun b o e => sortedAll_old e) (Nat.le_succ _) ⟨z2, out, c, each_vals oe, ec⟩, rfl, q _ (I.hok.fresh (Nat.le_succ _))⟩
theorem zip_all {K : PySem.W.Frag} {F : Hp} : ∀ {xs : List V} {ds : List D}, RpAll K F xs ds → ∀ b ∈ xs.zip ds, Rp K F b.1 b.2
  | [], [], _, b, h => by cases h
  | x :: xs, d :: ds, h, b, hb => by
    cases h with
    | cons r t =>
      rcases List.mem_cons.mp hb with e | hb
      · rw [e]; exact r
      · exact zip_all t b hb
  | [], _ :: _, h, _, _ => by cases h
  | _ :: _, [], h, _, _ => by cases h
theorem all_zip {K : PySem.W.Frag} {F : Hp} : ∀ {bs : List (V × D)}, (∀ b ∈ bs, Rp K F b.1 b.2) → RpAll K F (bs.map Prod.fst) (bs.map Prod.snd)
  | [], _ => .nil
  | b :: bs, h => .cons (h b List.mem_cons_self) (all_zip fun c hc => h c (List.mem_cons_of_mem _ hc))
theorem ok_sorted {K : PySem.W.Frag} : OpN K (rSortA K) fSorted := by
  intro F H vs ds rv Q s pv hf k
  unfold fSorted at hf
  split at hf
  · rename_i xs
    split at hf
    · rename_i hz
      cases hf
      obtain ⟨v, ev, pw⟩ := pv.one
      subst ev
      obtain ⟨a, us, e1, q1, r1⟩ := pw.lst s
      subst e1
      refine ⟨a, us, xs, rfl, q1, RpAll.mono s _ _ r1, hz, fun p hp => k _ _ _ (.lst s hp ?_)⟩
      have hr := all_zip (K := K) (F := F) (bs := isort (fun a b => leD a.2 b.2) (us.zip xs)) fun b hb => zip_all r1 b (isort_mem.mp hb)
      rw [show (isort (fun a b => leD a.2 b.2) (us.zip xs)).map Prod.snd = isort leD ((us.zip xs).map Prod.snd) from isort_map (le := leD) (fun b : V × D => b.2) _, List.map_snd_zip (by rw [r1.length]; exact Nat.le_refl _)] at hr
      exact hr
    · cases hf
  · cases hf
end Pu
set_option Elab.async false
set_option linter.all false
set_option maxRecDepth 100000
set_option maxHeartbeats 1000000
/-! Pu6: the pure layer: targets, what is walked, comprehensions. -/
namespace Pu
open PySem L2 PyProof.Rows RZ
/-! ### targets -/
inductive Tg where
  | n (i : Nat)
  | t (l : List Nat)
def Tg.slots : Tg → List Nat
  | .n i => [i]
  | .t l => l
def put1 (i : Nat) (d : D) (ρ : Ev) : Option Ev := match ρ[i]? with
  | some (some (.io _)) => none
  | some _ => some (ρ.set i (some (.frz d)))
  | none => none
def puts : List Nat → List D → Ev → Option Ev
  | [], [], ρ => some ρ
  | i :: is, d :: ds, ρ => (put1 i d ρ).bind (puts is ds)
  | _, _, _ => none
def asg (t : Tg) (d : D) (ρ : Ev) : Option Ev := match t with
  | .n i => put1 i d ρ
  | .t l => match d with
    | .tuple ds => puts l ds ρ
    | .list ds => puts l ds ρ
    | _ => none
def Chg (vs : List Nat) (σ σ' : L2.St) : Prop := σ'.length = σ.length ∧ ∀ i : Nat, i ∉ vs → σ'[i]? = σ[i]?
theorem Chg.refl (vs : List Nat) (σ : L2.St) : Chg vs σ σ := ⟨rfl, fun _ _ => rfl⟩
theorem Chg.trans {vs us : List Nat} {a b c : L2.St} (h : Chg vs a b) (g : Chg us b c) : Chg (vs ++ us) a c :=
  ⟨g.1.trans h.1, fun i hi => (g.2 i fun z => hi (List.mem_append_right _ z)).trans (h.2 i fun z => hi (List.mem_append_left _ z))⟩
theorem set_getV {l : L2.St} {i j : Nat} {x : Option V} : (l.set i x)[j]? = if j = i then (if j < l.length then some x else none) else l[j]? := by
  by_cases h : j = i
  · subst h
    rw [if_pos rfl]
    by_cases hl : j < l.length
    · rw [List.getElem?_set_self hl, if_pos hl]
    · rw [if_neg hl, List.getElem?_eq_none (by simpa using hl)]
  · rw [if_neg h, List.getElem?_set_ne fun z => h z.symm]
theorem St.put {K : PySem.W.Frag} {F H : Hp} {ρ : Ev} {σ : L2.St} {i : Nat} {d : D} {v : V} {x : Option Sl} (S : St K F ρ σ H) (hi : ρ[i]? = some x) (r : Rp K F v d) : St K F (ρ.set i (some (.frz d))) (σ.set i (some v)) H := by
  have hl : i < σ.length := by rw [← S.len]; exact (List.getElem?_eq_some_iff.mp hi).1
  refine ⟨by rw [List.length_set, List.length_set]; exact S.len, S.le, fun j s hs => ?_, fun j k s t b hj hk ms mt ej ek => ?_⟩
  · rcases set_get hs with ⟨z, e⟩ | ⟨z, hs⟩
    · subst z; cases e
      exact ⟨v, by rw [set_getV, if_pos rfl, if_pos hl], r⟩
    · obtain ⟨u, e, ok⟩ := S.slot j s hs
      exact ⟨u, by rw [set_getV, if_neg z]; exact e, ok⟩
  · rcases set_get hj with ⟨z, e⟩ | ⟨z, hj⟩
    · cases e; cases ms
    · rcases set_get hk with ⟨z2, e⟩ | ⟨z2, hk⟩
      · cases e; cases mt
      · rw [set_getV, if_neg z] at ej
        rw [set_getV, if_neg z2] at ek
        exact S.inj j k s t b hj hk ms mt ej ek
theorem put1_some {i : Nat} {d : D} {ρ ρ' : Ev} (h : put1 i d ρ = some ρ') : ∃ x, ρ[i]? = some x ∧ (∀ xs, x ≠ some (.io xs)) ∧ ρ' = ρ.set i (some (.frz d)) := by
  unfold put1 at h
  split at h
  · cases h
  · rename_i x n e
    cases h
    exact ⟨x, e, fun xs z => n xs (by rw [z]), rfl⟩
  · cases h
theorem Mu.put {ρ : Ev} {σ : L2.St} {i : Nat} {d : D} {v : V} {b : Addr} (m : Mu (ρ.set i (some (.frz d))) (σ.set i (some v)) b) : Mu ρ σ b := by
  obtain ⟨j, s, hs, ms, e⟩ := m
  rcases set_get hs with ⟨z, e'⟩ | ⟨z, hs⟩
  · cases e'; cases ms
  · rw [set_getV, if_neg z] at e
    exact ⟨j, s, hs, ms, e⟩
/-- the store of a target -/
def tG (w : Wi) (t : Tg) : TG := fun v σ H Q => ∃ F ρ d ρ', St w.K F ρ σ H ∧ Rp w.K F v d ∧ asg t d ρ = some ρ' ∧ ∀ σ', St w.K F ρ' σ' H → Chg t.slots σ σ' → (∀ b, Mu ρ' σ' b → Mu ρ σ b) → Q σ' H
def tGs (w : Wi) (is : List Nat) : TGs := fun vs σ H Q => ∃ F ρ ds ρ', St w.K F ρ σ H ∧ RpAll w.K F vs ds ∧ puts is ds ρ = some ρ' ∧ ∀ σ', St w.K F ρ' σ' H → Chg is σ σ' → (∀ b, Mu ρ' σ' b → Mu ρ σ b) → Q σ' H
theorem PGimp {X : Cx} {e : Expr} {t t' : TG} (h : PG X e t) (i : ∀ v σ H Q, t' v σ H Q → t v σ H Q) : PG X e t' := ⟨fun pins s σ H v u Q I r q => h.run pins s σ H v u Q I r (i _ _ _ _ q)⟩
theorem PGsimp {X : Cx} {e : List Expr} {t t' : TGs} (h : PGs X e t) (i : ∀ v σ H Q, t' v σ H Q → t v σ H Q) : PGs X e t' := ⟨fun pins s σ H v u Q I r q => h.run pins s σ H v u Q I r (i _ _ _ _ q)⟩
section
variable {w : Wi} {X : Cx}
theorem sg_name {i : Nat} {x : Str} {pos : Pos} (hN : X.N.Nodup) (hi : X.N[i]? = some x) (hx : Loc X.env.scope x) (hf : X.fn x = true ∨ X.env.scope.names.lookup x = some .local) : PG X (.Name x pos) (tG w (.n i)) := by
  refine PGimp (pg_name hN hi hx hf) fun v σ H Q ⟨F, ρ, d, ρ', S, r, ha, q⟩ => ?_
  obtain ⟨y, h1, h2, h3⟩ := put1_some (show put1 i d ρ = some ρ' from ha)
  subst h3
  exact q _ (S.put h1 r) ⟨by rw [List.length_set], fun j hj => by rw [set_getV, if_neg fun z => hj (by rw [z]; exact List.mem_cons_self)]⟩ fun b m => m.put
theorem sgs_nil : PGs X [] (tGs w []) := by
  refine PGsimp pgs_nil fun v σ H Q ⟨F, ρ, ds, ρ', S, r, ha, q⟩ => ?_
  cases ds with
  | nil =>
    cases r
    cases ha
    exact ⟨rfl, q σ S (.refl _ _) fun _ m => m⟩
  | cons _ _ => cases ha
theorem sgs_cons {e : Expr} {es : List Expr} {i : Nat} {is : List Nat} (h1 : PG X e (tG w (.n i))) (h2 : PGs X es (tGs w is)) (hs : (assignEach (e :: es) X.env).map (·.2) = assign e X.env :: (assignEach es X.env).map (·.2)) : PGs X (e :: es) (tGs w (i :: is)) := by
  refine PGsimp (pgs_cons h1 h2 hs) fun v σ H Q ⟨F, ρ, ds, ρ', S, r, ha, q⟩ => ?_
  cases ds with
  | nil => cases ha
  | cons d ds =>
    cases r with
    | cons r rs =>
      have ha : (put1 i d ρ).bind (puts is ds) = some ρ' := ha
      cases e1 : put1 i d ρ with
      | none => rw [e1] at ha; cases ha
      | some ρ1 =>
        rw [e1] at ha
        refine ⟨_, _, rfl, F, ρ, d, ρ1, S, r, e1, fun σ1 S1 c1 m1 => ⟨F, ρ1, ds, ρ', S1, rs, ha, fun σ2 S2 c2 m2 => q σ2 S2 ?_ fun b m => m1 b (m2 b m)⟩⟩
        exact Chg.trans c1 c2
theorem sg_tup {es : List Expr} {k : Nat} {pos : Pos} {is : List Nat} (hK : w.K = X.K) (hc : X.calm = true) (h : PGs X es (tGs w is)) (hn : (assignEach es X.env).length = is.length) (hst : (assignEach es X.env).findIdx? (·.1) = none) : PG X (.Tuple es k pos) (tG w (.t is)) := by
  refine ⟨fun pins s σ H v u Q I r ⟨F, ρ, d, ρ', S, rp, ha, q⟩ => ?_⟩
  have len : ∀ {is : List Nat} {ds : List D} {ρ ρ' : Ev}, puts is ds ρ = some ρ' → ds.length = is.length := by
    intro is
    induction is with
    | nil =>
      intro ds ρ ρ' h
      cases ds with
      | nil => rfl
      | cons _ _ => cases h
    | cons i is ih =>
      intro ds ρ ρ' h
      cases ds with
      | nil => cases h
      | cons d ds =>
        have h : (put1 i d ρ).bind (puts is ds) = some ρ' := h
        cases e1 : put1 i d ρ with
        | none => rw [e1] at h; cases h
        | some ρ1 =>
          rw [e1] at h
          rw [List.length_cons, List.length_cons, ih h]
  cases d with
  | tuple ds =>
    cases rp with
    | tup hq hr => exact (pg_tup hc h hn hst).run pins s σ H _ u Q I r ⟨_, _, rfl, S.le.sqT (hK ▸ hq), by rw [hr.length, len ha], F, ρ, ds, ρ', S, hr, ha, q⟩
  | list ds =>
    cases rp with
    | lst hq hr => exact (pg_lst hc h hn hst).run pins s σ H _ u Q I r ⟨_, _, rfl, .inl (S.le.rd hq), by rw [hr.length, len ha], F, ρ, ds, ρ', S, hr, ha, q⟩
  | none => cases ha
  | bool _ => cases ha
  | int _ => cases ha
  | str _ => cases ha
  | dict _ => cases ha
end

/-! ### what is walked -/
structure ItD (K : PySem.W.Frag) (Fb : Hp) (J : It) (ds : List D) : Prop where
  go : ∀ (i : Nat) H, Sub Fb H → i < ds.length → J.go i H
  stop : ∀ H, Sub Fb H → J.stop ds.length H
  yld : ∀ (i : Nat) d x H H' F, Sub Fb F → Sub F H → ds[i]? = some d → J.yld i H x H' → ∃ F', Mk K F H x F' H' (.fz d)
def tI (w : Wi) (m : M (List D)) : TI := fun σ H R => ∃ F ρ, St w.K F ρ σ H ∧ Wp w F ρ σ H (m ρ) fun ds ρ' F' H' => ∀ J, ItD w.K F' J ds → R J H'
def signs (z : Str) : List D := z.cps.toList.map fun c => PyData.str ⟨#[c]⟩
def seqOf (h : Hd) : M (List D) := fun ρ => match h with
  | .v (.fz (.list xs)) => .ok xs ρ
  | .v (.fz (.tuple xs)) => .ok xs ρ
  | .v (.fz (.str z)) => .ok (signs z) ρ
  | _ => .bad
def mSeq (m : M Hd) : M (List D) := fun ρ => (mEsc m ρ).bind seqOf
section
variable {w : Wi} {X : Cx} {tg : Expr}
theorem at_some {α : Type} {l : List α} {i : Nat} (h : i < l.length) : ∃ x, l[i]? = some x := ⟨_, List.getElem?_eq_getElem h⟩
theorem itd_list {K : PySem.W.Frag} {F : Hp} {a : Addr} {vs : List V} {ds : List D} (q : Rd F a (.lst vs)) (r : RpAll K F vs ds) : ItD K F (Itl K a) ds where
  go := fun i H s h => by
    obtain ⟨x, e⟩ := at_some (l := vs) (i := i) (by rw [r.length]; exact h)
    exact ⟨vs, x, .inl (s.rd q), e⟩
  stop := fun H s => ⟨vs, .inl (s.rd q), by rw [r.length]; exact Nat.le_refl _⟩
  yld := fun i d x H H' F' s1 s2 e ⟨e1, e2⟩ => by
    subst e1
    obtain ⟨v, hv, rp⟩ := r.get e
    have z := e2 vs (.inl ((s1.trans s2).rd q))
    rw [hv] at z; cases z
    exact ⟨F', .val s2 (Rp.mono s1 _ _ rp)⟩
theorem itd_tup {K : PySem.W.Frag} {F : Hp} {a : Addr} {vs : List V} {ds : List D} (q : SqT K F a vs) (r : RpAll K F vs ds) : ItD K F (Itt K a) ds where
  go := fun i H s h => by
    obtain ⟨x, e⟩ := at_some (l := vs) (i := i) (by rw [r.length]; exact h)
    exact ⟨vs, x, s.sqT q, e⟩
  stop := fun H s => ⟨vs, s.sqT q, by rw [r.length]; exact Nat.le_refl _⟩
  yld := fun i d x H H' F' s1 s2 e ⟨e1, e2⟩ => by
    subst e1
    obtain ⟨v, hv, rp⟩ := r.get e
    have z := e2 vs ((s1.trans s2).sqT q)
    rw [hv] at z; cases z
    exact ⟨F', .val s2 (Rp.mono s1 _ _ rp)⟩
theorem itd_str {K : PySem.W.Frag} {F : Hp} (z : Str) : ItD K F (Its z) (signs z) where
  go := fun i H s h => by
    unfold signs at h
    rw [List.length_map, Array.length_toList] at h
    exact h
  stop := fun H s => by
    unfold signs
    rw [List.length_map, Array.length_toList]
    exact Nat.le_refl _
  yld := fun i d x H H' F' s1 s2 e ⟨e1, c, hc, ex⟩ => by
    subst e1; subst ex
    unfold signs at e
    rw [List.getElem?_map, Array.getElem?_toList, hc] at e
    cases e
    exact ⟨F', .val s2 (.str _)⟩
theorem si_seq {e : Expr} {m : M Hd} (hK : w.K = X.K) (he : PE X e (tK w m)) : PI X tg e (tI w (mSeq m)) := by
  refine ⟨fun pins s σ H R I ⟨F, ρ, S, h⟩ => ?_⟩
  have hE := se_esc he
  unfold mSeq at h
  have z := Wp.bind S h
  cases e1 : mEsc m ρ with
  | bad => rw [e1] at z; exact z.elim
  | exc x ρ1 =>
    rw [e1] at z
    exact (pi_list hE).run pins s σ H R I ⟨F, ρ, S, by rw [e1]; exact z⟩
  | ok k ρ1 =>
    rw [e1] at z
    have fin : ∀ ds, seqOf k ρ1 = .ok ds ρ1 → ∀ F1 H1, StpE w.K F ρ σ H F1 ρ1 H1 → ∀ J, ItD w.K F1 J ds → R J H1 := fun ds eq F1 H1 p J hJ => by
      obtain ⟨_, z2⟩ := z F1 H1 p
      rw [eq] at z2
      exact z2.ok p.st J hJ
    unfold seqOf at fin
    split at fin
    · rename_i xs
      refine (pi_list hE).run pins s σ H R I ⟨F, ρ, S, ?_⟩
      rw [e1]
      intro F1 H1 p v hv
      have hv : Rp w.K F1 v (.list xs) := hv
      cases hv with
      | lst q r => exact ⟨_, rfl, ⟨_, .inl (p.st.le.rd q)⟩, fin xs rfl F1 H1 p _ (hK ▸ itd_list q r)⟩
    · rename_i xs
      refine (pi_tup hE).run pins s σ H R I ⟨F, ρ, S, ?_⟩
      rw [e1]
      intro F1 H1 p v hv
      have hv : Rp w.K F1 v (.tuple xs) := hv
      cases hv with
      | tup q r => exact ⟨_, rfl, ⟨_, p.st.le.sqT (hK ▸ q)⟩, fin xs rfl F1 H1 p _ (hK ▸ itd_tup q r)⟩
    · rename_i y
      refine (pi_str hE).run pins s σ H R I ⟨F, ρ, S, ?_⟩
      rw [e1]
      intro F1 H1 p v hv
      have hv : Rp w.K F1 v (.str y) := hv
      cases hv
      exact ⟨y, rfl, fin _ rfl F1 H1 p _ (itd_str y)⟩
    · rename_i n1 n2 n3
      refine (pi_list hE).run pins s σ H R I ⟨F, ρ, S, ?_⟩
      rw [e1]
      intro F1 H1 p v hv
      obtain ⟨_, z2⟩ := z F1 H1 p
      have eb : seqOf k ρ1 = .bad := by
        unfold seqOf
        split
        · exact absurd rfl (n1 _)
        · exact absurd rfl (n2 _)
        · exact absurd rfl (n3 _)
        · rfl
      rw [eb] at z2
      exact z2.elim
/-- range(..) -/
def rgD (lo hi : Int) : List D := (List.range (hi - lo).toNat).map fun i => PyData.int (lo + (i : Nat))
def rgOk (a b : Int) : Bool := decide (-4611686018427387904 ≤ a) && decide (a < 4611686018427387904) && decide (-4611686018427387904 ≤ b) && decide (b < 4611686018427387904)
def mWalk (f : List D → Option (List D)) (ms : List (M Hd)) : M (List D) := fun ρ => (mArgs ms ρ).bind fun hs ρ1 => match fzs hs with
  | some ds => (match f ds with
    | some l => .ok l ρ1
    | none => .bad)
  | none => .bad
theorem walk_in {f : List D → Option (List D)} {ms : List (M Hd)} {σ : L2.St} {H : Hp} {R : It → Hp → Prop} (h : tI w (mWalk f ms) σ H R) :
    tA w (mArgs ms) σ H fun vs H1 => ∃ F1 ds l, Sub F1 H1 ∧ RpAll w.K F1 vs ds ∧ f ds = some l ∧ ∀ J, ItD w.K F1 J l → R J H1 := by
  obtain ⟨F, ρ, S, h⟩ := h
  refine ⟨F, ρ, S, (Wp.bind S h).mono fun hs ρ1 F1 H1 ⟨p, q⟩ vs hv => ?_⟩
  split at q
  · rename_i ds ed
    split at q
    · rename_i l ef
      exact ⟨F1, ds, l, p.st.le, hv.fzs ed, ef, q.ok p.st⟩
    · exact q.elim
  · exact q.elim
theorem PIimp {e : Expr} {t t' : TI} (h : PI X tg e t) (i : ∀ σ H R, t' σ H R → t σ H R) : PI X tg e t' := ⟨fun pins s σ H Q I q => h.run pins s σ H Q I (i σ H Q q)⟩
theorem TA_mono {m : M (List Hd)} {σ : L2.St} {H : Hp} {Q Q' : List V → Hp → Prop} (h : tA w m σ H Q) (i : ∀ b H, Q b H → Q' b H) : tA w m σ H Q' := by
  obtain ⟨F, ρ, S, h⟩ := h
  exact ⟨F, ρ, S, Wp.mono h fun _ _ _ _ q v hv => i _ _ (q v hv)⟩
theorem RpAll.one {K : PySem.W.Frag} {F : Hp} {vs : List V} {d : D} (h : RpAll K F vs [d]) : ∃ v, vs = [v] ∧ Rp K F v d := by
  cases h with
  | cons a b => cases b; exact ⟨_, rfl, a⟩
theorem RpAll.two {K : PySem.W.Frag} {F : Hp} {vs : List V} {d e : D} (h : RpAll K F vs [d, e]) : ∃ v u, vs = [v, u] ∧ Rp K F v d ∧ Rp K F u e := by
  cases h with
  | cons a b =>
    cases b with
    | cons c b => cases b; exact ⟨_, _, rfl, a, c⟩
def fRange1 : List D → Option (List D)
  | [.int n] => if rgOk 0 n = true then some (rgD 0 n) else none
  | _ => none
def fRange2 : List D → Option (List D)
  | [.int i, .int j] => if rgOk i j = true then some (rgD i j) else none
  | _ => none
theorem rgOk_of {a b : Int} (h : rgOk a b = true) : -(2 ^ 62) ≤ a ∧ a < 2 ^ 62 ∧ -(2 ^ 62) ≤ b ∧ b < 2 ^ 62 := by
  unfold rgOk at h
  simp only [Bool.and_eq_true, decide_eq_true_eq] at h
  exact ⟨h.1.1.1, h.1.1.2, h.1.2, h.2⟩
theorem itd_range {K : PySem.W.Frag} {F : Hp} (lo hi : Int) : ItD K F (Itr lo (hi - lo).toNat) (rgD lo hi) where
  go := fun i H s h => by
    unfold rgD at h
    rw [List.length_map, List.length_range] at h
    exact h
  stop := fun H s => by
    unfold rgD
    rw [List.length_map, List.length_range]
    exact Nat.le_refl _
  yld := fun i d x H H' F' s1 s2 e ⟨e1, ex⟩ => by
    subst e1; subst ex
    unfold rgD at e
    rw [List.getElem?_map] at e
    cases e2 : (List.range (hi - lo).toNat)[i]? with
    | none => rw [e2] at e; cases e
    | some j =>
      rw [e2] at e
      obtain ⟨hj, ej⟩ := List.getElem?_eq_some_iff.mp e2
      rw [List.getElem_range] at ej
      subst ej
      cases e
      exact ⟨F', .val s2 (.int _)⟩
theorem si_range1 {a : Expr} {ms : List (M Hd)} {p pos : Pos} (hg : Gl X "range") (hm : X.mg "range" = none) (ha : PA X [a] (tA w (mArgs ms))) (hs : starEach [a] X.env = [(false, eval a X.env)]) : PI X tg (.Call (.Name "range" p) [a] [] pos) (tI w (mWalk fRange1 ms)) := by
  refine PIimp (pi_range1 hg hm ha hs) fun σ H R h => TA_mono (walk_in h) fun vs H1 ⟨F1, ds, l, s, r, ef, q⟩ => ?_
  unfold fRange1 at ef
  split at ef
  · rename_i n
    split at ef
    · rename_i ok
      cases ef
      obtain ⟨v, rfl, rv⟩ := r.one
      cases rv
      obtain ⟨h1, h2, h3, h4⟩ := rgOk_of ok
      refine ⟨n, rfl, h3, h4, q _ ?_⟩
      have g := itd_range (K := w.K) (F := F1) 0 n
      rw [Int.sub_zero] at g
      exact g
    · cases ef
  · cases ef
theorem si_range2 {a b : Expr} {ms : List (M Hd)} {p pos : Pos} (hg : Gl X "range") (hm : X.mg "range" = none) (ha : PA X [a, b] (tA w (mArgs ms))) (hs : starEach [a, b] X.env = [(false, eval a X.env), (false, eval b X.env)]) (hs2 : starEach [b] X.env = [(false, eval b X.env)]) :
    PI X tg (.Call (.Name "range" p) [a, b] [] pos) (tI w (mWalk fRange2 ms)) := by
  refine PIimp (pi_range2 hg hm ha hs hs2) fun σ H R h => TA_mono (walk_in h) fun vs H1 ⟨F1, ds, l, s, r, ef, q⟩ => ?_
  unfold fRange2 at ef
  split at ef
  · rename_i i j
    split at ef
    · rename_i ok
      cases ef
      obtain ⟨v, u, rfl, rv, ru⟩ := r.two
      cases rv; cases ru
      exact ⟨i, j, rfl, rgOk_of ok, q _ (itd_range i j)⟩
    · cases ef
  · cases ef
/-- zip of two lists, of two tuples -/
def pairs : List D → List D → List D
  | x :: xs, y :: ys => .tuple [x, y] :: pairs xs ys
  | _, _ => []
def fZip : List D → Option (List D)
  | [.list xs, .list ys] => some (pairs xs ys)
  | [.tuple xs, .tuple ys] => some (pairs xs ys)
  | _ => none
theorem pairs_get : ∀ {xs ys : List D} {i : Nat} {d : D}, (pairs xs ys)[i]? = some d → ∃ x y, xs[i]? = some x ∧ ys[i]? = some y ∧ d = .tuple [x, y]
  | [], _, _, _, h => by simp [pairs] at h
  | _ :: _, [], _, _, h => by simp [pairs] at h
  | x :: xs, y :: ys, 0, d, h => by
    simp [pairs] at h
    exact ⟨x, y, rfl, rfl, h.symm⟩
  | x :: xs, y :: ys, i + 1, d, h => by
    obtain ⟨a, b, h1, h2, h3⟩ := pairs_get (xs := xs) (ys := ys) (i := i) (by simpa [pairs] using h)
    exact ⟨a, b, by simpa using h1, by simpa using h2, h3⟩
theorem pairs_len : ∀ xs ys : List D, (pairs xs ys).length = min xs.length ys.length
  | [], _ => by simp [pairs]
  | _ :: _, [] => by simp [pairs]
  | x :: xs, y :: ys => by simp only [pairs, List.length_cons, pairs_len xs ys]; omega
theorem mk_pair {K : PySem.W.Frag} {F H : Hp} {T : Addr} {x y : V} {d e : D} (s : Sub F H) (hn : H T = none) (a : Rp K F x d) (b : Rp K F y e) : Mk K F H (.ref T) (upd F T (.tup [x, y])) (upd H T (.tup [x, y])) (.fz (.tuple [d, e])) := .tup s hn (.cons a (.cons b .nil))
theorem itd_zip {K : PySem.W.Frag} {F : Hp} {a b : Addr} {vs us : List V} {ds es : List D} (q1 : Rd F a (.lst vs)) (q2 : Rd F b (.lst us)) (r1 : RpAll K F vs ds) (r2 : RpAll K F us es) : ItD K F (Itz K a b) (pairs ds es) where
  go := fun i H s h => by
    rw [pairs_len] at h
    obtain ⟨x, e⟩ := at_some (l := vs) (i := i) (by rw [r1.length]; omega)
    obtain ⟨y, e'⟩ := at_some (l := us) (i := i) (by rw [r2.length]; omega)
    exact ⟨vs, us, x, y, .inl (s.rd q1), .inl (s.rd q2), e, e'⟩
  stop := fun H s => ⟨vs, us, .inl (s.rd q1), .inl (s.rd q2), by rw [pairs_len, r1.length, r2.length]; omega⟩
  yld := fun i d x H H' F' s1 s2 e ⟨T, v, u, ex, hn, eH, f1, f2⟩ => by
    subst ex; subst eH
    obtain ⟨d1, d2, e1, e2, ed⟩ := pairs_get e
    subst ed
    obtain ⟨v', hv, rp⟩ := r1.get e1
    obtain ⟨u', hu, rq⟩ := r2.get e2
    have z := f1 vs (.inl ((s1.trans s2).rd q1))
    rw [hv] at z; cases z
    have z := f2 us (.inl ((s1.trans s2).rd q2))
    rw [hu] at z; cases z
    exact ⟨_, mk_pair s2 hn (Rp.mono s1 _ _ rp) (Rp.mono s1 _ _ rq)⟩
theorem itd_zipT {K : PySem.W.Frag} {F : Hp} {a b : Addr} {vs us : List V} {ds es : List D} (q1 : SqT K F a vs) (q2 : SqT K F b us) (r1 : RpAll K F vs ds) (r2 : RpAll K F us es) : ItD K F (ItzT K a b) (pairs ds es) where
  go := fun i H s h => by
    rw [pairs_len] at h
    obtain ⟨x, e⟩ := at_some (l := vs) (i := i) (by rw [r1.length]; omega)
    obtain ⟨y, e'⟩ := at_some (l := us) (i := i) (by rw [r2.length]; omega)
    exact ⟨vs, us, x, y, s.sqT q1, s.sqT q2, e, e'⟩
  stop := fun H s => ⟨vs, us, s.sqT q1, s.sqT q2, by rw [pairs_len, r1.length, r2.length]; omega⟩
  yld := fun i d x H H' F' s1 s2 e ⟨T, v, u, ex, hn, eH, f1, f2⟩ => by
    subst ex; subst eH
    obtain ⟨d1, d2, e1, e2, ed⟩ := pairs_get e
    subst ed
    obtain ⟨v', hv, rp⟩ := r1.get e1
    obtain ⟨u', hu, rq⟩ := r2.get e2
    have z := f1 vs ((s1.trans s2).sqT q1)
    rw [hv] at z; cases z
    have z := f2 us ((s1.trans s2).sqT q2)
    rw [hu] at z; cases z
    exact ⟨_, mk_pair s2 hn (Rp.mono s1 _ _ rp) (Rp.mono s1 _ _ rq)⟩
theorem si_zip {e e2 : Expr} {ms : List (M Hd)} {p pos tpos : Pos} {elts : List Expr} {kk : Nat} (hK : w.K = X.K) (hg : Gl X "zip") (hm : X.mg "zip" = none) (ha : PA X [e, e2] (tA w (mArgs ms))) (hs : starEach [e, e2] X.env = (false, eval e X.env) :: starEach [e2] X.env) (hpl : (backTo pos (starEach [e2] X.env)).any (·.1) = false) :
    PI X (.Tuple elts kk tpos) (.Call (.Name "zip" p) [e, e2] [] pos) (tI w (mWalk fZip ms)) := by
  refine PIimp (pi_zipA hg hm ha hs hpl) fun σ H R h => TA_mono (walk_in h) fun vs H1 ⟨F1, ds, l, s, r, ef, q⟩ => ?_
  unfold fZip at ef
  split at ef
  · cases ef
    obtain ⟨v, u, rfl, rv, ru⟩ := r.two
    cases rv with
    | lst q1 r1 =>
      cases ru with
      | lst q2 r2 => exact ⟨_, _, _, _, rfl, .inl ⟨.inl (s.rd q1), .inl (s.rd q2), q _ (hK ▸ itd_zip q1 q2 r1 r2)⟩⟩
  · cases ef
    obtain ⟨v, u, rfl, rv, ru⟩ := r.two
    cases rv with
    | tup q1 r1 =>
      cases ru with
      | tup q2 r2 => exact ⟨_, _, _, _, rfl, .inr ⟨hK ▸ s.sqT q1, hK ▸ s.sqT q2, q _ (hK ▸ itd_zipT q1 q2 r1 r2)⟩⟩
  · cases ef
/-- enumerate of a list -/
def numb : Nat → List D → List D
  | _, [] => []
  | n, x :: xs => .tuple [.int (n : Nat), x] :: numb (n + 1) xs
def fEnum : List D → Option (List D)
  | [.list xs] => some (numb 0 xs)
  | _ => none
theorem numb_get : ∀ {xs : List D} {n i : Nat} {d : D}, (numb n xs)[i]? = some d → ∃ x, xs[i]? = some x ∧ d = .tuple [.int ((n + i : Nat) : Int), x]
  | [], _, _, _, h => by simp [numb] at h
  | x :: xs, n, 0, d, h => by
    simp [numb] at h
    exact ⟨x, rfl, h.symm⟩
  | x :: xs, n, i + 1, d, h => by
    obtain ⟨a, h1, h2⟩ := numb_get (xs := xs) (n := n + 1) (i := i) (by simpa [numb] using h)
    exact ⟨a, by simpa using h1, by rw [h2, show n + 1 + i = n + (i + 1) by omega]⟩
theorem numb_len : ∀ (xs : List D) (n : Nat), (numb n xs).length = xs.length
  | [], _ => rfl
  | x :: xs, n => by simp only [numb, List.length_cons, numb_len xs]
theorem itd_enum {K : PySem.W.Frag} {F : Hp} {a : Addr} {vs : List V} {ds : List D} (q : Rd F a (.lst vs)) (r : RpAll K F vs ds) : ItD K F (Ite K a) (numb 0 ds) where
  go := fun i H s h => by
    rw [numb_len] at h
    obtain ⟨x, e⟩ := at_some (l := vs) (i := i) (by rw [r.length]; exact h)
    exact ⟨vs, x, .inl (s.rd q), e⟩
  stop := fun H s => ⟨vs, .inl (s.rd q), by rw [numb_len, r.length]; exact Nat.le_refl _⟩
  yld := fun i d x H H' F' s1 s2 e ⟨T, v, ex, hn, eH, f1⟩ => by
    subst ex; subst eH
    obtain ⟨d1, e1, ed⟩ := numb_get e
    subst ed
    obtain ⟨v', hv, rp⟩ := r.get e1
    have z := f1 vs (.inl ((s1.trans s2).rd q))
    rw [hv] at z; cases z
    rw [Nat.zero_add]
    exact ⟨_, mk_pair s2 hn (.int _) (Rp.mono s1 _ _ rp)⟩
theorem si_enum {e : Expr} {ms : List (M Hd)} {p pos tpos : Pos} {elts : List Expr} {kk : Nat} (hK : w.K = X.K) (hg : Gl X "enumerate") (hm : X.mg "enumerate" = none) (ha : PA X [e] (tA w (mArgs ms))) (hs : starEach [e] X.env = [(false, eval e X.env)]) :
    PI X (.Tuple elts kk tpos) (.Call (.Name "enumerate" p) [e] [] pos) (tI w (mWalk fEnum ms)) := by
  refine PIimp (pi_enum hg hm ha hs) fun σ H R h => TA_mono (walk_in h) fun vs H1 ⟨F1, ds, l, s, r, ef, q⟩ => ?_
  unfold fEnum at ef
  split at ef
  · cases ef
    obtain ⟨v, rfl, rv⟩ := r.one
    cases rv with
    | lst q1 r1 => exact ⟨_, _, rfl, .inl (s.rd q1), q _ (hK ▸ itd_enum q1 r1)⟩
  · cases ef
end
end Pu
set_option Elab.async false
set_option linter.all false
set_option maxRecDepth 100000
set_option maxHeartbeats 1000000
/-! Pu7: the pure layer: comprehensions. -/
namespace Pu
open PySem L2 PyProof.Rows
/-- slots of vs as f says, the others as they are -/
def over (vs : List Nat) (f : Nat → Option Sl) : Nat → Ev → Ev
  | _, [] => []
  | k, x :: r => (bif vs.contains k then f k else x) :: over vs f (k + 1) r
theorem over_get (vs : List Nat) (f : Nat → Option Sl) : ∀ (ρ : Ev) (k i : Nat), (over vs f k ρ)[i]? = (ρ[i]?).map fun x => bif vs.contains (k + i) then f (k + i) else x
  | [], _, _ => by simp [over]
  | x :: r, k, 0 => by simp [over]
  | x :: r, k, i + 1 => by
    have h := over_get vs f r (k + 1) i
    simp only [over, List.getElem?_cons_succ, h]
    rw [show k + 1 + i = k + (i + 1) by omega]
theorem over_len (vs : List Nat) (f : Nat → Option Sl) : ∀ (ρ : Ev) (k : Nat), (over vs f k ρ).length = ρ.length
  | [], _ => rfl
  | x :: r, k => by simp only [over, List.length_cons, over_len vs f r]
def wipeE (vs : List Nat) (ρ : Ev) : Ev := over vs (fun _ => none) 0 ρ
def backE (vs : List Nat) (ρ0 ρ : Ev) : Ev := over vs (fun i => (ρ0[i]?).join) 0 ρ
theorem wipeE_get {vs : List Nat} {ρ : Ev} {i : Nat} {s : Sl} : (wipeE vs ρ)[i]? = some (some s) ↔ i ∉ vs ∧ ρ[i]? = some (some s) := by
  unfold wipeE
  rw [over_get, Nat.zero_add]
  cases e : ρ[i]? with
  | none => simp
  | some x =>
    by_cases h : i ∈ vs
    · simp [h]
    · simp [h]
theorem wipeE_join {vs : List Nat} {ρ : Ev} {i : Nat} : ((wipeE vs ρ)[i]?).join = if i ∈ vs then none else (ρ[i]?).join := by
  unfold wipeE
  rw [over_get, Nat.zero_add]
  cases e : ρ[i]? with
  | none => simp
  | some x =>
    by_cases h : i ∈ vs
    · simp [h]
    · simp [h]
theorem backE_join {vs : List Nat} {ρ0 ρ : Ev} {i : Nat} (hl : ρ.length = ρ0.length) : ((backE vs ρ0 ρ)[i]?).join = if i ∈ vs then (ρ0[i]?).join else (ρ[i]?).join := by
  unfold backE
  rw [over_get, Nat.zero_add]
  cases e : ρ[i]? with
  | none =>
    have e0 : ρ0[i]? = none := by
      rw [List.getElem?_eq_none_iff] at e ⊢
      omega
    simp [e0]
  | some x =>
    by_cases h : i ∈ vs
    · simp [h]
    · simp [h]
theorem wipe_in {σ : L2.St} {i : Nat} : ∀ {vs : List Nat}, i ∈ vs → (wipe σ vs)[i]? = if i < σ.length then some none else none
  | v :: vs, h => by
    unfold wipe
    rw [set_getV]
    by_cases hv : i = v
    · rw [if_pos hv, wipe_length]
    · rw [if_neg hv]
      rcases List.mem_cons.mp h with z | z
      · exact absurd z hv
      · exact wipe_in z
theorem wipe_chg {vs us : List Nat} {σ σ' : L2.St} (c : Chg us σ σ') (h : ∀ i ∈ us, i ∈ vs) : wipe σ' vs = wipe σ vs := by
  refine List.ext_getElem? fun i => ?_
  by_cases hi : i ∈ vs
  · rw [wipe_in hi, wipe_in hi, c.1]
  · rw [wipe_out hi, wipe_out hi]
    exact c.2 i fun z => hi (h i z)
theorem wipe_wipe {vs : List Nat} {σ : L2.St} : wipe (wipe σ vs) vs = wipe σ vs := by
  refine List.ext_getElem? fun i => ?_
  by_cases hi : i ∈ vs
  · rw [wipe_in hi, wipe_in hi, wipe_length]
  · rw [wipe_out hi]
theorem St.wipe {K : PySem.W.Frag} {F H : Hp} {ρ : Ev} {σ : L2.St} (vs : List Nat) (S : St K F ρ σ H) : St K F (wipeE vs ρ) (L2.wipe σ vs) H := by
  refine ⟨by unfold wipeE; rw [over_len, wipe_length]; exact S.len, S.le, fun i s hs => ?_, fun i j s t a hi hj ms mt ei ej => ?_⟩
  · obtain ⟨h1, h2⟩ := wipeE_get.mp hs
    obtain ⟨v, e, ok⟩ := S.slot i s h2
    exact ⟨v, by rw [wipe_out h1]; exact e, ok⟩
  · obtain ⟨h1, h2⟩ := wipeE_get.mp hi
    obtain ⟨g1, g2⟩ := wipeE_get.mp hj
    rw [wipe_out h1] at ei
    rw [wipe_out g1] at ej
    exact S.inj i j s t a h2 g2 ms mt ei ej
theorem Mu.wipe {ρ : Ev} {σ : L2.St} {vs : List Nat} {b : Addr} (m : Mu (wipeE vs ρ) (L2.wipe σ vs) b) : Mu ρ σ b := by
  obtain ⟨i, s, hs, ms, e⟩ := m
  obtain ⟨h1, h2⟩ := wipeE_get.mp hs
  rw [wipe_out h1] at e
  exact ⟨i, s, h2, ms, e⟩

/-! ### the heap without the list that is made -/
def era (A : Addr) (H : Hp) : Hp := fun b => if b = A then none else H b
theorem era_ne {A b : Addr} {H : Hp} (h : b ≠ A) : era A H b = H b := if_neg h
theorem era_self {A : Addr} {H : Hp} : era A H A = none := if_pos rfl
theorem era_some {A b : Addr} {H : Hp} {o : HO} (h : era A H b = some o) : b ≠ A ∧ H b = some o := by
  by_cases hb : b = A
  · subst hb; rw [era_self] at h; cases h
  · rw [era_ne hb] at h; exact ⟨hb, h⟩
theorem era_upd {A : Addr} {H : Hp} {o : HO} : era A (upd H A o) = era A H := by
  funext b
  by_cases hb : b = A
  · subst hb; rw [era_self, era_self]
  · rw [era_ne hb, era_ne hb, upd_ne hb]
theorem era_none {A : Addr} {H : Hp} (h : H A = none) : era A H = H := by
  funext b
  by_cases hb : b = A
  · subst hb; rw [era_self, h]
  · rw [era_ne hb]
theorem St.uner {K : PySem.W.Frag} {F H : Hp} {ρ : Ev} {σ : L2.St} {A : Addr} (S : St K F ρ σ (era A H)) : St K F ρ σ H := by
  refine ⟨S.len, fun b o h => (era_some (S.le b o h)).2, fun i s hs => ?_, S.inj⟩
  obtain ⟨v, e, ok⟩ := S.slot i s hs
  refine ⟨v, e, ?_⟩
  cases s with
  | frz d => exact ok
  | own xs =>
    obtain ⟨a, vs, h1, h2, h3⟩ := ok
    exact ⟨a, vs, h1, (era_some h2).2, h3⟩
  | io xs =>
    obtain ⟨a, vs, h1, h2, h3⟩ := ok
    exact ⟨a, vs, h1, (era_some h2).2, h3⟩
theorem StpE.era {K : PySem.W.Frag} {F F' H H' : Hp} {ρ ρ' : Ev} {σ : L2.St} {A : Addr} (S : St K F ρ σ (era A H)) (hA : H A ≠ none) (p : StpE K F ρ σ H F' ρ' H') : H' A = H A ∧ StpE K F ρ σ (era A H) F' ρ' (Pu.era A H') := by
  have nm : ¬ Mu ρ σ A := fun m => by
    obtain ⟨⟨vs, e⟩, _⟩ := S.mu_some m
    rw [era_self] at e; cases e
  have hF : F A = none := by
    cases e : F A with
    | none => rfl
    | some o => have z := S.le A o e; rw [era_self] at z; cases z
  have hF' : F' A = none := by
    cases e : F' A with
    | none => rfl
    | some o =>
      rcases p.new A o e with z | z | z
      · rw [hF] at z; cases z
      · exact absurd z hA
      · exact absurd z nm
  have hH' : H' A = H A := by
    cases e : H A with
    | none => exact absurd e hA
    | some o => exact p.keep A o e nm
  have neA : ∀ {b : Addr} {o : HO}, F' b = some o → b ≠ A := fun {b o} h z => by rw [z, hF'] at h; cases h
  have st' := p.st
  refine ⟨hH', ⟨⟨st'.len, fun b o h => by rw [era_ne (neA h)]; exact st'.le b o h, fun i s hs => ?_, st'.inj⟩, p.le, fun b o h n => ?_, fun b h => ?_, fun b o h => ?_, p.sl⟩⟩
  · obtain ⟨v, e, ok⟩ := st'.slot i s hs
    refine ⟨v, e, ?_⟩
    cases s with
    | frz d => exact ok
    | own xs =>
      obtain ⟨a, vs, h1, h2, h3⟩ := ok
      subst h1
      exact ⟨a, vs, rfl, by rw [era_ne fun z => nm (p.mu ⟨i, _, hs, rfl, by rw [← z]; exact e⟩)]; exact h2, h3⟩
    | io xs =>
      obtain ⟨a, vs, h1, h2, h3⟩ := ok
      subst h1
      exact ⟨a, vs, rfl, by rw [era_ne fun z => nm (p.mu ⟨i, _, hs, rfl, by rw [← z]; exact e⟩)]; exact h2, h3⟩
  · obtain ⟨h1, h2⟩ := era_some h
    rw [era_ne h1]
    exact p.keep b o h2 n
  · by_cases hb : b = A
    · subst hb; exact era_self
    · rw [era_ne hb] at h ⊢
      exact p.dom b h
  · rcases p.new b o h with z | z | z
    · exact .inl z
    · exact .inr (.inl (by rw [era_ne (neA h)]; exact z))
    · exact .inr (.inr z)

/-! ### the turns -/
def noExc {α : Type} (r : Res α) : Res α := match r with
  | .exc _ _ => .bad
  | r => r
def kept (h : Hd) : Option D := match h with
  | .v (.fz d) => some d
  | _ => none
def compRun (vs : List Nat) (tg : Tg) (cond elt : M Hd) : List D → M (List D)
  | [] => fun ρ => .ok [] ρ
  | d :: ds => fun ρ => match asg tg d ρ with
    | none => .bad
    | some ρ1 => (cond ρ1).bind fun hb ρ2 => match asB hb ρ2 with
      | some true => (mEsc elt ρ2).bind fun h ρ3 => match kept h with
        | some e => (compRun vs tg cond elt ds (wipeE vs ρ3)).bind fun es ρ4 => .ok (e :: es) ρ4
        | none => .bad
      | some false => compRun vs tg cond elt ds (wipeE vs ρ2)
      | none => .bad
def mComp (vs : List Nat) (mi : M (List D)) (tg : Tg) (cond elt : M Hd) : M Hd := fun ρ => (mi ρ).bind fun ds ρ1 =>
  if ds.length ≤ lim then (noExc (compRun vs tg cond elt ds (wipeE vs ρ1))).bind fun xs ρ2 => .ok (.v (.fr xs)) (backE vs ρ1 ρ2) else .bad
def Wi.blk (w : Wi) : Wi := { w with W := fun _ _ _ _ => False }
section
variable {w : Wi} {X : Cx}
theorem noExc_ok {α : Type} {r : Res α} {w : Wi} {F H : Hp} {ρ : Ev} {σ : L2.St} {β : Type} {f : α → M β} {Q : β → Ev → Hp → Hp → Prop} (h : Wp w F ρ σ H ((noExc r).bind f) Q) : ∃ a ρ', r = .ok a ρ' ∧ Wp w F ρ σ H (f a ρ') Q := by
  cases r with
  | ok a ρ' => exact ⟨a, ρ', rfl, h⟩
  | exc x ρ' => exact h.elim
  | bad => exact h.elim
/-- one turn's end -/
theorem turn_step {K : PySem.W.Frag} {F F' H H' : Hp} {ρ ρ1 ρ3 : Ev} {σ0 σ2 : L2.St} {vs us : List Nat} (S : St K F ρ (L2.wipe σ0 vs) H) (hw : wipeE vs ρ = ρ) (c : Chg us (L2.wipe σ0 vs) σ2) (hu : ∀ i ∈ us, i ∈ vs) (ρe : ∀ i : Nat, i ∉ vs → (ρ1[i]?).join = (ρ[i]?).join) (mu : ∀ b, Mu ρ1 σ2 b → Mu ρ (L2.wipe σ0 vs) b)
    (p : StpE K F ρ1 σ2 H F' ρ3 H') : StpE K F ρ (L2.wipe σ0 vs) H F' (wipeE vs ρ3) H' := by
  have eσ : L2.wipe σ2 vs = L2.wipe σ0 vs := by rw [wipe_chg c hu, wipe_wipe]
  have S3 := p.st.wipe vs
  rw [eσ] at S3
  refine ⟨S3, p.le, fun b o h n => p.keep b o h fun m => n (mu b m), p.dom, fun b o h => ?_, fun i => ?_⟩
  · rcases p.new b o h with z | z | z
    · exact .inl z
    · exact .inr (.inl z)
    · exact .inr (.inr (mu b z))
  · rw [wipeE_join]
    by_cases hi : i ∈ vs
    · rw [if_pos hi, ← hw, wipeE_join, if_pos hi]
      exact SlLe.refl none
    · rw [if_neg hi, ← ρe i hi]
      exact p.sl i
theorem Res.assoc {α β γ : Type} (r : Res α) (f : α → M β) (g : β → M γ) : (r.bind f).bind g = r.bind fun a ρ => (f a ρ).bind g := by
  cases r <;> rfl
theorem put1_ne {i j : Nat} {d : D} {ρ ρ' : Ev} (h : put1 i d ρ = some ρ') (hj : j ≠ i) : ρ'[j]? = ρ[j]? := by
  obtain ⟨x, _, _, e⟩ := put1_some h
  rw [e, List.getElem?_set_ne fun z => hj z.symm]
theorem puts_ne {j : Nat} : ∀ {is : List Nat} {ds : List D} {ρ ρ' : Ev}, puts is ds ρ = some ρ' → j ∉ is → ρ'[j]? = ρ[j]?
  | [], [], _, _, h, _ => by cases h; rfl
  | [], _ :: _, _, _, h, _ => by cases h
  | _ :: _, [], _, _, h, _ => by cases h
  | i :: is, d :: ds, ρ, ρ', h, hj => by
    have h : (put1 i d ρ).bind (puts is ds) = some ρ' := h
    cases e1 : put1 i d ρ with
    | none => rw [e1] at h; cases h
    | some ρ1 =>
      rw [e1] at h
      rw [puts_ne h fun z => hj (List.mem_cons_of_mem _ z), put1_ne e1 fun z => hj (by rw [z]; exact List.mem_cons_self)]
theorem asg_ne {j : Nat} {t : Tg} {d : D} {ρ ρ' : Ev} (h : asg t d ρ = some ρ') (hj : j ∉ t.slots) : ρ'[j]? = ρ[j]? := by
  cases t with
  | n i => exact put1_ne h fun z => hj (by rw [z]; exact List.mem_cons_self)
  | t l =>
    cases d with
    | tuple ds => exact puts_ne h hj
    | list ds => exact puts_ne h hj
    | none => cases h
    | bool _ => cases h
    | int _ => cases h
    | str _ => cases h
    | dict _ => cases h
theorem wipeE_idem {vs : List Nat} {ρ : Ev} : wipeE vs (wipeE vs ρ) = wipeE vs ρ := by
  refine List.ext_getElem? fun i => ?_
  unfold wipeE
  rw [over_get, over_get, Nat.zero_add]
  cases ρ[i]? with
  | none => rfl
  | some x =>
    simp only [Option.map_some]
    cases vs.contains i <;> rfl
theorem back_step {K : PySem.W.Frag} {F1 Fi H1 H' : Hp} {ρ1 ρi : Ev} {σ : L2.St} {vs : List Nat} {A : Addr} {o : HO} (S1 : St K F1 ρ1 σ H1) (hA : H1 A = none) (p : StpE K F1 (wipeE vs ρ1) (L2.wipe σ vs) H1 Fi ρi (era A H')) (hH : H' A = some o) :
    StpE K F1 ρ1 σ H1 Fi (backE vs ρ1 ρi) H' := by
  have hl : ρi.length = ρ1.length := by
    have a := p.st.len
    rw [wipe_length] at a
    rw [a, S1.len]
  have get : ∀ {i : Nat} {s : Sl}, (backE vs ρ1 ρi)[i]? = some (some s) → (i ∈ vs ∧ ρ1[i]? = some (some s)) ∨ (i ∉ vs ∧ ρi[i]? = some (some s)) := fun {i s} h => by
    have z := join_some.mpr h
    rw [backE_join hl] at z
    by_cases hi : i ∈ vs
    · rw [if_pos hi] at z; exact .inl ⟨hi, join_some.mp z⟩
    · rw [if_neg hi] at z; exact .inr ⟨hi, join_some.mp z⟩
  -- a slot that was hidden
  have hid : ∀ {i : Nat} {s : Sl} {a : Addr}, i ∈ vs → ρ1[i]? = some (some s) → s.mu = true → σ[i]? = some (some (.ref a)) → ¬ Mu (wipeE vs ρ1) (L2.wipe σ vs) a := fun {i s a} hi hs ms e m => by
    obtain ⟨j, t, ht, mt, et⟩ := m
    obtain ⟨h1, h2⟩ := wipeE_get.mp ht
    rw [wipe_out h1] at et
    exact h1 (S1.inj i j s t a hs h2 ms mt e et ▸ hi)
  have hidA : ∀ {i : Nat} {s : Sl} {a : Addr} {us : List V}, i ∈ vs → ρ1[i]? = some (some s) → s.mu = true → σ[i]? = some (some (.ref a)) → H1 a = some (.lst us) → F1 a = none → H' a = some (.lst us) ∧ Fi a = none := fun {i s a us} hi hs ms e h1 hF => by
    have nm := hid hi hs ms e
    refine ⟨(era_some (p.keep a _ h1 nm)).2, ?_⟩
    cases eF : Fi a with
    | none => rfl
    | some o =>
      rcases p.new a o eF with z | z | z
      · rw [hF] at z; cases z
      · rw [h1] at z; cases z
      · exact absurd z nm
  refine ⟨⟨by unfold backE; rw [over_len, hl]; exact S1.len, fun b o h => (era_some (p.st.le b o h)).2, fun i s hs => ?_, fun i j s t a hi hj ms mt ei ej => ?_⟩, p.le, fun b o h n => ?_, fun b h => ?_, fun b o h => ?_, fun i => ?_⟩
  · rcases get hs with ⟨hi, hs⟩ | ⟨hi, hs⟩
    · obtain ⟨v, e, ok⟩ := S1.slot i s hs
      refine ⟨v, e, ?_⟩
      cases s with
      | frz d => exact Rp.mono p.le _ _ ok
      | own xs =>
        obtain ⟨a, us, h1, h2, h3, h4⟩ := ok
        subst h1
        obtain ⟨g1, g2⟩ := hidA hi hs rfl e h2 h3
        exact ⟨a, us, rfl, g1, g2, RpAll.mono p.le _ _ h4⟩
      | io xs =>
        obtain ⟨a, us, h1, h2, h3, h4⟩ := ok
        subst h1
        obtain ⟨g1, g2⟩ := hidA hi hs rfl e h2 h3
        exact ⟨a, us, rfl, g1, g2, RpAll.mono p.le _ _ h4⟩
    · obtain ⟨v, e, ok⟩ := p.st.uner.slot i s hs
      rw [wipe_out hi] at e
      exact ⟨v, e, ok⟩
  · rcases get hi with ⟨gi, hi⟩ | ⟨gi, hi⟩
    · rcases get hj with ⟨gj, hj⟩ | ⟨gj, hj⟩
      · exact S1.inj i j s t a hi hj ms mt ei ej
      · exact absurd (p.mu ⟨j, t, hj, mt, by rw [wipe_out gj]; exact ej⟩) (hid gi hi ms ei)
    · rcases get hj with ⟨gj, hj⟩ | ⟨gj, hj⟩
      · exact absurd (p.mu ⟨i, s, hi, ms, by rw [wipe_out gi]; exact ei⟩) (hid gj hj mt ej)
      · exact p.st.inj i j s t a hi hj ms mt (by rw [wipe_out gi]; exact ei) (by rw [wipe_out gj]; exact ej)
  · exact (era_some (p.keep b o h fun m => n m.wipe)).2
  · by_cases hb : b = A
    · subst hb; exact hA
    · exact p.dom b (by rw [era_ne hb]; exact h)
  · exact (p.new b o h).imp id (Or.imp id Mu.wipe)
  · rw [backE_join hl]
    by_cases hi : i ∈ vs
    · rw [if_pos hi]; exact SlLe.refl _
    · rw [if_neg hi]
      have z := p.sl i
      rw [wipeE_join, if_neg hi] at z
      exact z
theorem kept_some {h : Hd} {e : D} (k : kept h = some e) : h = .v (.fz e) := by
  unfold kept at k
  split at k
  · cases k; rfl
  · cases k
theorem comp_in {vs : List Nat} {mi : M (List D)} {tg : Tg} {cond elt : M Hd} {σ : L2.St} {H : Hp} {Q : VK} (hs : ∀ i ∈ tg.slots, i ∈ vs) (h : tK w (mComp vs mi tg cond elt) σ H Q) : tLc (tI w mi) (tG w.blk tg) (tT w.blk cond) (tK w.blk (mEsc elt)) vs σ H Q := by
  obtain ⟨F, ρ, S, h⟩ := h
  refine ⟨F, ρ, S, (Wp.bind S h).mono fun ds ρ1 F1 H1 ⟨p, q⟩ J hJ A hA => ?_⟩
  split at q
  case isFalse => exact q.elim
  rename_i hlim
  obtain ⟨xs0, ρ0, e0, q⟩ := noExc_ok q
  have S1 := p.st
  have Sw := S1.wipe vs
  have eE : era A (upd H1 A (.lst [])) = H1 := by rw [era_upd, era_none hA]
  let W : Nat → Nat → Hp → Prop := fun i m H' => m = ds.length - i ∧ i ≤ ds.length ∧ ∃ Fi ρi acc accV, StpE w.K F1 (wipeE vs ρ1) (L2.wipe σ vs) H1 Fi ρi (era A H') ∧ wipeE vs ρi = ρi ∧ H' A = some (.lst accV) ∧ RpAll w.K Fi accV acc ∧ acc.length ≤ i ∧
    (compRun vs tg cond elt (ds.drop i) ρi).bind (fun es ρ' => .ok (acc ++ es) ρ') = .ok xs0 ρ0
  refine ⟨W, ⟨ds.length, by simp, Nat.zero_le _, F1, wipeE vs ρ1, [], [], by rw [eE]; exact .refl Sw, wipeE_idem, upd_same, .nil, Nat.le_refl _, ?_⟩, ?_⟩
  · rw [List.drop_zero, e0]; rfl
  rintro i m H' ⟨rfl, hi, Fi, ρi, acc, accV, pi, hwi, hHA, hr, hacc, heq⟩
  have Si : St w.K Fi ρi (L2.wipe σ vs) H' := pi.st.uner
  have sF1 : Sub F1 H' := pi.le.trans Si.le
  have hHA' : H' A ≠ none := by rw [hHA]; exact fun z => by cases z
  by_cases hlt : i < ds.length
  · refine .inr ⟨hJ.go i H' sF1 hlt, W (i + 1) (ds.length - (i + 1)), fun H'' h => ⟨_, by omega, h⟩, fun x H2 hy => ?_⟩
    obtain ⟨d, hd⟩ := at_some hlt
    obtain ⟨F2, mk⟩ := hJ.yld i d x H' H2 Fi pi.le Si.le hd hy
    have p2 := Si.made mk
    obtain ⟨hA2, p2e⟩ := StpE.era pi.st hHA' p2
    have hdrop : ds.drop i = d :: ds.drop (i + 1) := by
      rw [List.drop_eq_getElem_cons hlt]
      rw [List.getElem?_eq_getElem hlt] at hd
      cases hd; rfl
    rw [hdrop] at heq
    unfold compRun at heq
    cases ea : asg tg d ρi with
    | none => rw [ea] at heq; cases heq
    | some ρa =>
      rw [ea] at heq
      refine ⟨F2, ρi, d, ρa, p2.st, mk.rv, ea, fun σ2 S2 c2 mu2 => ⟨by rw [wipe_chg c2 hs, wipe_wipe], ?_⟩⟩
      refine ⟨F2, ρa, S2, ?_⟩
      have ρe : ∀ j : Nat, j ∉ vs → (ρa[j]?).join = (ρi[j]?).join := fun j hj => by rw [asg_ne ea fun z => hj (hs j z)]
      have hA2' : H2 A ≠ none := by rw [hA2]; exact hHA'
      have fin : ∀ {F3 H3 : Hp} {ρ3 : Ev}, StpE w.K F2 ρa σ2 H2 F3 ρ3 H3 → H3 A = some (.lst accV) ∧ StpE w.K F1 (wipeE vs ρ1) (L2.wipe σ vs) H1 F3 (wipeE vs ρ3) (era A H3) := fun {F3 H3 ρ3} p3 => by
        have t := turn_step p2.st hwi c2 hs ρe mu2 p3
        obtain ⟨g1, g2⟩ := StpE.era p2e.st hA2' t
        exact ⟨by rw [g1, hA2, hHA], (pi.trans Sw p2e).trans Sw g2⟩
      have heq : (((cond ρa).bind fun hb ρ2 => match asB hb ρ2 with
        | some true => (mEsc elt ρ2).bind fun h ρ3 => match kept h with
          | some e => (compRun vs tg cond elt (ds.drop (i + 1)) (wipeE vs ρ3)).bind fun es ρ4 => .ok (e :: es) ρ4
          | none => .bad
        | some false => compRun vs tg cond elt (ds.drop (i + 1)) (wipeE vs ρ2)
        | none => .bad).bind fun es ρ' => .ok (acc ++ es) ρ') = .ok xs0 ρ0 := heq
      cases ec : cond ρa with
      | bad => rw [ec] at heq; cases heq
      | exc x ρx => rw [ec] at heq; cases heq
      | ok hb ρb =>
        rw [ec] at heq
        intro F3 H3 p3
        have heq : ((match asB hb ρb with
          | some true => (mEsc elt ρb).bind fun h ρ3 => match kept h with
            | some e => (compRun vs tg cond elt (ds.drop (i + 1)) (wipeE vs ρ3)).bind fun es ρ4 => .ok (e :: es) ρ4
            | none => .bad
          | some false => compRun vs tg cond elt (ds.drop (i + 1)) (wipeE vs ρb)
          | none => .bad : Res (List D)).bind fun es ρ' => .ok (acc ++ es) ρ') = .ok xs0 ρ0 := heq
        cases eb : asB hb ρb with
        | none => rw [eb] at heq; cases heq
        | some b =>
          rw [eb] at heq
          refine ⟨b, asB_some eb, ?_⟩
          obtain ⟨hA3, t3⟩ := fin p3
          cases b with
          | false => exact ⟨rfl, hlt, F3, wipeE vs ρb, acc, accV, t3, wipeE_idem, hA3, RpAll.mono (p2.le.trans p3.le) _ _ hr, Nat.le_succ_of_le hacc, heq⟩
          | true =>
            refine ⟨F3, ρb, p3.st, ?_⟩
            have heq : ((mEsc elt ρb).bind fun h ρ3 => match kept h with
              | some e => (compRun vs tg cond elt (ds.drop (i + 1)) (wipeE vs ρ3)).bind fun es ρ4 => .ok (e :: es) ρ4
              | none => .bad).bind (fun es ρ' => .ok (acc ++ es) ρ') = .ok xs0 ρ0 := heq
            cases em : mEsc elt ρb with
            | bad => rw [em] at heq; cases heq
            | exc x ρx => rw [em] at heq; cases heq
            | ok k ρk =>
              rw [em] at heq
              have heq : ((match kept k with
                | some e => (compRun vs tg cond elt (ds.drop (i + 1)) (wipeE vs ρk)).bind fun es ρ4 => .ok (e :: es) ρ4
                | none => .bad : Res (List D)).bind fun es ρ' => .ok (acc ++ es) ρ') = .ok xs0 ρ0 := heq
              intro F4 H4 p4 v hv
              cases ek : kept k with
              | none => rw [ek] at heq; cases heq
              | some e =>
                rw [ek] at heq
                rw [kept_some ek] at hv
                have hv : Rp w.K F4 v e := hv
                obtain ⟨hA4, t4⟩ := fin (p3.trans S2 p4)
                have heq : ((compRun vs tg cond elt (ds.drop (i + 1)) (wipeE vs ρk)).bind fun es ρ4 => .ok (e :: es) ρ4).bind (fun es ρ' => .ok (acc ++ es) ρ') = .ok xs0 ρ0 := heq
                rw [Res.assoc] at heq
                refine ⟨accV, hA4, by rw [hr.length, sizeLine_eq]; have z : ds.length ≤ 16777216 := hlim; omega, rfl, hlt, F4, wipeE vs ρk, acc ++ [e], accV ++ [v], by rw [era_upd]; exact t4, wipeE_idem, upd_same, (RpAll.mono (p2.le.trans (p3.le.trans p4.le)) _ _ hr).append (.cons hv .nil), by rw [List.length_append]; exact Nat.succ_le_succ hacc, ?_⟩
                rw [← heq]
                congr 1
                funext es ρ'
                show Res.ok (acc ++ [e] ++ es) ρ' = Res.ok (acc ++ (e :: es)) ρ'
                rw [List.append_assoc]; rfl
  · have hi' : i = ds.length := by omega
    subst hi'
    refine .inl ⟨hJ.stop H' sF1, ?_⟩
    rw [List.drop_length] at heq
    have heq : Res.ok (acc ++ []) ρi = Res.ok xs0 ρ0 := heq
    rw [List.append_nil] at heq
    cases heq
    exact q Fi H' (back_step S1 hA pi hHA) (.ref A) ⟨A, accV, rfl, p.dom A hA, hHA, (by
      cases e : Fi A with
      | none => rfl
      | some o => have z := pi.st.le A o e; rw [era_self] at z; cases z), hr⟩
end
end Pu
set_option Elab.async false
set_option linter.all false
set_option maxRecDepth 100000
set_option maxHeartbeats 1000000
/-! Pu8: the pure layer: statements. -/
namespace Pu
open PySem L2 PyProof.Rows
inductive Fl where
  | next
  | brk
  | cont
  | ret (r : RV)
structure StpS (K : PySem.W.Frag) (F : Hp) (ρ : Ev) (σ : L2.St) (H : Hp) (F' : Hp) (ρ' : Ev) (σ' : L2.St) (H' : Hp) : Prop where
  st : St K F' ρ' σ' H'
  le : Sub F F'
  keep : ∀ b o, H b = some o → ¬ Mu ρ σ b → H' b = some o
  dom : ∀ b, H' b = none → H b = none
  new : ∀ b o, F' b = some o → F b = some o ∨ H b = none ∨ Mu ρ σ b
  mu : ∀ b, Mu ρ' σ' b → Mu ρ σ b ∨ H b = none
  io : ∀ (i : Nat) xs, ρ[i]? = some (some (.io xs)) → (∃ ys, ρ'[i]? = some (some (.io ys))) ∧ σ'[i]? = σ[i]?
section
variable {K : PySem.W.Frag} {F F1 F2 H H1 H2 : Hp} {ρ ρ1 ρ2 : Ev} {σ σ1 σ2 : L2.St}
theorem StpE.toS (p : StpE K F ρ σ H F1 ρ1 H1) : StpS K F ρ σ H F1 ρ1 σ H1 := by
  refine ⟨p.st, p.le, p.keep, p.dom, p.new, fun b m => .inl (p.mu m), fun i xs h => ⟨?_, rfl⟩⟩
  have z := p.sl i
  rw [join_some.mpr h] at z
  obtain ⟨ys, z⟩ := z
  exact ⟨ys, join_some.mp z⟩
theorem StpS.refl (S : St K F ρ σ H) : StpS K F ρ σ H F ρ σ H := (StpE.refl S).toS
theorem StpS.trans (p : StpS K F ρ σ H F1 ρ1 σ1 H1) (q : StpS K F1 ρ1 σ1 H1 F2 ρ2 σ2 H2) : StpS K F ρ σ H F2 ρ2 σ2 H2 := by
  refine ⟨q.st, p.le.trans q.le, fun b o h n => q.keep b o (p.keep b o h n) fun m => ?_, fun b h => p.dom b (q.dom b h), fun b o h => ?_, fun b m => ?_, fun i xs h => ?_⟩
  · rcases p.mu b m with z | z
    · exact n z
    · rw [h] at z; cases z
  · rcases q.new b o h with h | h | h
    · exact p.new b o h
    · exact .inr (.inl (p.dom b h))
    · exact .inr ((p.mu b h).symm)
  · rcases q.mu b m with z | z
    · exact p.mu b z
    · exact .inr (p.dom b z)
  · obtain ⟨⟨ys, h1⟩, e1⟩ := p.io i xs h
    obtain ⟨h2, e2⟩ := q.io i ys h1
    exact ⟨h2, e2.trans e1⟩
end
/-- the value that is returned, seen from an earlier state -/
def RtOk (K : PySem.W.Frag) (F' : Hp) (ρ : Ev) (σ : L2.St) (H H' : Hp) (v : V) : RV → Prop
  | .fz d => Rp K F' v d
  | .fr xs => ∃ a vs, v = .ref a ∧ (H a = none ∨ ∃ (i : Nat) (ys : List D), ρ[i]? = some (some (.own ys)) ∧ σ[i]? = some (some (.ref a))) ∧ H' a = some (.lst vs) ∧ F' a = none ∧ RpAll K F' vs xs
theorem RVok.rt {K : PySem.W.Frag} {F' H H' : Hp} {ρ : Ev} {σ : L2.St} {v : V} {r : RV} (h : RVok K F' H H' v r) : RtOk K F' ρ σ H H' v r := by
  cases r with
  | fz d => exact h
  | fr xs =>
    obtain ⟨a, vs, e, h0, h1, h2, h3⟩ := h
    exact ⟨a, vs, e, .inl h0, h1, h2, h3⟩
theorem RtOk.back {K : PySem.W.Frag} {F F1 F' H H1 H' : Hp} {ρ ρ1 : Ev} {σ σ1 : L2.St} {v : V} {r : RV} (p : StpS K F ρ σ H F1 ρ1 σ1 H1) (h : RtOk K F' ρ1 σ1 H1 H' v r) : RtOk K F' ρ σ H H' v r := by
  cases r with
  | fz d => exact h
  | fr xs =>
    obtain ⟨a, vs, e, h0, h1, h2, h3⟩ := h
    refine ⟨a, vs, e, ?_, h1, h2, h3⟩
    rcases h0 with h0 | ⟨i, ys, g1, g2⟩
    · exact .inl (p.dom a h0)
    · rcases p.mu a ⟨i, _, g1, rfl, g2⟩ with ⟨j, s, k1, k2, k3⟩ | z
      · cases s with
        | frz d => cases k2
        | own zs => exact .inr ⟨j, zs, k1, k3⟩
        | io zs =>
          obtain ⟨⟨us, e1⟩, e2⟩ := p.io j zs k1
          have ij := p.st.inj i j _ _ a g1 e1 rfl rfl g2 (e2.trans k3)
          subst ij
          rw [g1] at e1; cases e1
      · exact .inl z
def WpS (w : Wi) (F : Hp) (ρ : Ev) (σ : L2.St) (H : Hp) (r : Res Fl) (D : Ends) : Prop := match r with
  | .ok .next ρ' => ∀ σ' F' H', StpS w.K F ρ σ H F' ρ' σ' H' → D.nx σ' H'
  | .ok .brk ρ' => ∀ σ' F' H', StpS w.K F ρ σ H F' ρ' σ' H' → D.bk σ' H'
  | .ok .cont ρ' => ∀ σ' F' H', StpS w.K F ρ σ H F' ρ' σ' H' → D.ct σ' H'
  | .ok (.ret r) ρ' => ∀ v σ' F' H', StpS w.K F ρ σ H F' ρ' σ' H' → RtOk w.K F' ρ σ H H' v r → D.rt v H'
  | .exc x ρ' => ∀ cls d σ' F' H', StpS w.K F ρ σ H F' ρ' σ' H' → w.XR x cls d H' → w.W cls d σ' H'
  | .bad => False
def tS (w : Wi) (m : M Fl) : TS := fun D σ H => ∃ F ρ, St w.K F ρ σ H ∧ WpS w F ρ σ H (m ρ) D
section
variable {w : Wi} {X : Cx} {F F1 H H1 : Hp} {ρ ρ1 : Ev} {σ σ1 : L2.St}
/-- a later state's wish, from an earlier one's -/
theorem WpS.later {r : Res Fl} {D : Ends} (p : StpS w.K F ρ σ H F1 ρ1 σ1 H1) (h : WpS w F ρ σ H r D) : WpS w F1 ρ1 σ1 H1 r D := by
  match r, h with
  | .ok .next ρ', h => exact fun σ' F' H' q => h σ' F' H' (p.trans q)
  | .ok .brk ρ', h => exact fun σ' F' H' q => h σ' F' H' (p.trans q)
  | .ok .cont ρ', h => exact fun σ' F' H' q => h σ' F' H' (p.trans q)
  | .ok (.ret r) ρ', h => exact fun v σ' F' H' q rv => h v σ' F' H' (p.trans q) (rv.back p)
  | .exc x ρ', h => exact fun cls d σ' F' H' q hx => h cls d σ' F' H' (p.trans q) hx
  | .bad, h => exact h.elim
def mThen (a b : M Fl) : M Fl := fun ρ => (a ρ).bind fun f ρ1 => match f with
  | .next => b ρ1
  | f => .ok f ρ1
def mBlk : List (M Fl) → M Fl
  | [] => fun ρ => .ok .next ρ
  | m :: ms => mThen m (mBlk ms)
theorem ss_nil : PSs X [] (tS w (mBlk [])) := PSsimp pss_nil fun D σ H ⟨F, ρ, S, h⟩ => h σ F H (.refl S)
theorem ss_cons {st : Stmt} {rest : List Stmt} {m : M Fl} {ms : List (M Fl)} (h1 : PS X st (tS w m)) (h2 : PSs X rest (tS w (mBlk ms))) : PSs X (st :: rest) (tS w (mBlk (m :: ms))) := by
  refine PSsimp (pss_cons h1 h2) fun D σ H ⟨F, ρ, S, h⟩ => ⟨F, ρ, S, ?_⟩
  have h : WpS w F ρ σ H (mThen m (mBlk ms) ρ) D := h
  unfold mThen at h
  cases e : m ρ with
  | bad => rw [e] at h; exact h
  | exc x ρ1 => rw [e] at h; exact h
  | ok f ρ1 =>
    rw [e] at h
    cases f with
    | next => exact fun σ' F' H' p => ⟨F', ρ1, p.st, WpS.later p h⟩
    | brk => exact h
    | cont => exact h
    | ret r => exact h
/-- an expression ahead of a statement's end -/
theorem WpS.bind {α : Type} {r : Res α} {f : α → M Fl} {D : Ends} (h : WpS w F ρ σ H (r.bind f) D) : Wp w F ρ σ H r fun a ρ1 F1 H1 => StpE w.K F ρ σ H F1 ρ1 H1 ∧ WpS w F1 ρ1 σ H1 (f a ρ1) D := by
  cases r with
  | bad => exact h
  | exc x ρ1 => exact fun F' H' cls d p hx => h cls d σ F' H' p.toS hx
  | ok a ρ1 => exact fun F1 H1 p => ⟨p, WpS.later p.toS h⟩
def mIfS (c : M Hd) (a b : M Fl) : M Fl := mIf c a b
theorem WpS.if {h : Hd} {a b : M Fl} {D : Ends} (q : WpS w F ρ σ H (match asB h ρ with | some true => a ρ | some false => b ρ | none => .bad) D) : ∃ k, rd h ρ = some (.bool k) ∧ WpS w F ρ σ H (if k = true then a ρ else b ρ) D := by
  split at q
  · rename_i e; exact ⟨true, asB_some e, q⟩
  · rename_i e; exact ⟨false, asB_some e, q⟩
  · exact q.elim
theorem ss_if {c : Expr} {a b : List Stmt} {pos : Pos} {mc : M Hd} {ma mb : M Fl} (hc : PT X c (tT w mc)) (ha : PSs X a (tS w ma)) (hb : PSs X b (tS w mb)) : PS X (.If c a b pos) (tS w (mIfS mc ma mb)) := by
  refine PSimp (ps_if hc ha hb) fun D σ H ⟨F, ρ, S, h⟩ => ⟨F, ρ, S, (WpS.bind h).mono fun k ρ1 F1 H1 ⟨p, q⟩ => ?_⟩
  obtain ⟨k, e, q⟩ := WpS.if q
  refine ⟨k, e, ?_⟩
  cases k with
  | true => exact ⟨F1, ρ1, p.st, q⟩
  | false => exact ⟨F1, ρ1, p.st, q⟩
def mFl (f : Fl) : M Fl := fun ρ => .ok f ρ
theorem ss_pass {pos : Pos} : PS X (.Pass pos) (tS w (mFl .next)) := PSimp ps_pass fun D σ H ⟨F, ρ, S, h⟩ => h σ F H (.refl S)
theorem ss_break {pos : Pos} : PS X (.Break pos) (tS w (mFl .brk)) := PSimp ps_break fun D σ H ⟨F, ρ, S, h⟩ => h σ F H (.refl S)
theorem ss_continue {pos : Pos} : PS X (.Continue pos) (tS w (mFl .cont)) := PSimp ps_continue fun D σ H ⟨F, ρ, S, h⟩ => h σ F H (.refl S)
theorem ss_doc {x j pos pos'} : PS X (.Expr (.Constant (.str x) j pos) pos') (tS w (mFl .next)) := PSimp ps_doc fun D σ H ⟨F, ρ, S, h⟩ => h σ F H (.refl S)
theorem ss_retN {pos : Pos} : PS X (.Return none pos) (tS w (mFl (.ret (.fz .none)))) := PSimp ps_retN fun D σ H ⟨F, ρ, S, h⟩ => h .non σ F H (.refl S) Rp.non
/-- return e: a list of one's own goes to the caller -/
def retOf (h : Hd) : M Fl := fun ρ => match h with
  | .v r => .ok (.ret r) ρ
  | .s i => match ρ[i]?.join with
    | some (.frz d) => .ok (.ret (.fz d)) ρ
    | some (.own xs) => .ok (.ret (.fr xs)) ρ
    | _ => .bad
def mRet (m : M Hd) : M Fl := fun ρ => (m ρ).bind retOf
theorem ss_ret {e : Expr} {pos : Pos} {m : M Hd} (he : PE X e (tK w m)) : PS X (.Return (some e) pos) (tS w (mRet m)) := by
  refine PSimp (ps_ret he) fun D σ H ⟨F, ρ, S, h⟩ => ⟨F, ρ, S, ?_⟩
  unfold mRet at h
  cases e1 : m ρ with
  | bad => rw [e1] at h; exact h
  | exc x ρ1 => rw [e1] at h; exact fun F' H' cls d p hx => h cls d σ F' H' p.toS hx
  | ok k ρ1 =>
    rw [e1] at h
    intro F1 H1 p v hv
    have h : WpS w F ρ σ H (retOf k ρ1) D := h
    unfold retOf at h
    cases k with
    | v r => exact h v σ F1 H1 p.toS hv.rt
    | s i =>
      have q := WpS.later p.toS h
      obtain ⟨ei, s, hs⟩ := hv
      simp only [join_some.mpr hs] at q
      cases s with
      | frz d =>
        obtain ⟨v', ev', ok⟩ := p.st.slot i _ hs
        rw [ei] at ev'; cases ev'
        exact q v σ F1 H1 (.refl p.st) ok
      | own xs =>
        obtain ⟨v', ev', ok⟩ := p.st.slot i _ hs
        rw [ei] at ev'; cases ev'
        obtain ⟨a, vs, rfl, h1, h2, h3⟩ := ok
        exact q (.ref a) σ F1 H1 (.refl p.st) ⟨a, vs, rfl, .inr ⟨i, xs, hs, ei⟩, h1, h2, h3⟩
      | io xs => exact q.elim

/-! ### names stored -/
def ofRV : RV → Sl
  | .fz d => .frz d
  | .fr xs => .own xs
def put (i : Nat) (r : RV) (ρ : Ev) : Option Ev := match ρ[i]? with
  | some (some (.io _)) => none
  | some _ => some (ρ.set i (some (ofRV r)))
  | none => none
theorem put_some {i : Nat} {r : RV} {ρ ρ' : Ev} (h : put i r ρ = some ρ') : ∃ x, ρ[i]? = some x ∧ (∀ xs, x ≠ some (.io xs)) ∧ ρ' = ρ.set i (some (ofRV r)) := by
  unfold put at h
  split at h
  · cases h
  · rename_i x n e
    cases h
    exact ⟨x, e, fun xs z => n xs (by rw [z]), rfl⟩
  · cases h
/-- a value's place in a slot: it is shared, or it is a list of no one's -/
def Own1 (K : PySem.W.Frag) (F : Hp) (ρ : Ev) (σ : L2.St) (H : Hp) (v : V) : RV → Prop
  | .fz d => Rp K F v d
  | .fr xs => ∃ a vs, v = .ref a ∧ H a = some (.lst vs) ∧ F a = none ∧ ¬ Mu ρ σ a ∧ RpAll K F vs xs
theorem St.putR {K : PySem.W.Frag} {i : Nat} {r : RV} {v : V} {x : Option Sl} (S : St K F ρ σ H) (hi : ρ[i]? = some x) (o : Own1 K F ρ σ H v r) : St K F (ρ.set i (some (ofRV r))) (σ.set i (some v)) H := by
  cases r with
  | fz d => exact S.put hi o
  | fr xs =>
    obtain ⟨a, vs, rfl, h1, h2, h3, h4⟩ := o
    have hl : i < σ.length := by rw [← S.len]; exact (List.getElem?_eq_some_iff.mp hi).1
    refine ⟨by rw [List.length_set, List.length_set]; exact S.len, S.le, fun j s hs => ?_, fun j k s t b hj hk ms mt ej ek => ?_⟩
    · rcases set_get hs with ⟨z, e⟩ | ⟨z, hs⟩
      · subst z; cases e
        exact ⟨.ref a, by rw [set_getV, if_pos rfl, if_pos hl], a, vs, rfl, h1, h2, h4⟩
      · obtain ⟨u, e, ok⟩ := S.slot j s hs
        exact ⟨u, by rw [set_getV, if_neg z]; exact e, ok⟩
    · rcases set_get hj with ⟨z, e⟩ | ⟨z, hj'⟩
      · rcases set_get hk with ⟨z2, e2⟩ | ⟨z2, hk'⟩
        · rw [z, z2]
        · subst z
          rw [set_getV, if_pos rfl, if_pos hl] at ej
          cases ej
          rw [set_getV, if_neg z2] at ek
          exact absurd ⟨k, t, hk', mt, ek⟩ h3
      · rcases set_get hk with ⟨z2, e2⟩ | ⟨z2, hk'⟩
        · subst z2
          rw [set_getV, if_pos rfl, if_pos hl] at ek
          cases ek
          rw [set_getV, if_neg z] at ej
          exact absurd ⟨j, s, hj', ms, ej⟩ h3
        · rw [set_getV, if_neg z] at ej
          rw [set_getV, if_neg z2] at ek
          exact S.inj j k s t b hj' hk' ms mt ej ek
theorem Mu.putR {i : Nat} {r : RV} {v : V} {b : Addr} (m : Mu (ρ.set i (some (ofRV r))) (σ.set i (some v)) b) : Mu ρ σ b ∨ (v = .ref b ∧ ∃ xs, r = .fr xs) := by
  obtain ⟨j, s, hs, ms, e⟩ := m
  rcases set_get hs with ⟨z, e'⟩ | ⟨z, hs⟩
  · subst z
    cases r with
    | fz d => cases e'; cases ms
    | fr xs =>
      rw [set_getV, if_pos rfl] at e
      split at e
      · cases e; exact .inr ⟨rfl, xs, rfl⟩
      · cases e
  · rw [set_getV, if_neg z] at e
    exact .inl ⟨j, s, hs, ms, e⟩
/-- a name is stored behind an expression: (F, ρ, σ, H) is where the statement began -/
theorem put_step {K : PySem.W.Frag} {F F1 H H1 : Hp} {ρ ρ1 ρ2 : Ev} {σ σ1 : L2.St} {i : Nat} {r : RV} {v : V} (p : StpS K F ρ σ H F1 ρ1 σ1 H1) (h : put i r ρ1 = some ρ2) (o : Own1 K F1 ρ1 σ1 H1 v r) (n : ∀ a, v = .ref a → (∃ xs, r = .fr xs) → H a = none) :
    StpS K F ρ σ H F1 ρ2 (σ1.set i (some v)) H1 := by
  obtain ⟨x, h1, h2, h3⟩ := put_some h
  subst h3
  refine ⟨p.st.putR h1 o, p.le, p.keep, p.dom, p.new, fun b m => ?_, fun j xs hj => ?_⟩
  · rcases m.putR with m | ⟨e, q⟩
    · exact p.mu b m
    · exact .inr (n b e q)
  · obtain ⟨⟨ys, g1⟩, g2⟩ := p.io j xs hj
    have ne : i ≠ j := fun z => by
      subst z
      rw [h1] at g1
      exact h2 ys (Option.some.inj g1)
    exact ⟨⟨ys, by rw [List.getElem?_set_ne ne]; exact g1⟩, by rw [List.getElem?_set_ne ne]; exact g2⟩
theorem RVok.own {K : PySem.W.Frag} {r : RV} {v : V} (S : St K F ρ σ H) (p : StpE K F ρ σ H F1 ρ1 H1) (h : RVok K F1 H H1 v r) : Own1 K F1 ρ1 σ H1 v r ∧ ∀ a, v = .ref a → (∃ xs, r = .fr xs) → H a = none := by
  cases r with
  | fz d => exact ⟨h, fun a _ ⟨xs, z⟩ => by cases z⟩
  | fr xs =>
    obtain ⟨a, vs, e, h0, h1, h2, h3⟩ := h
    refine ⟨⟨a, vs, e, h1, h2, fun m => ?_, h3⟩, fun b eb _ => ?_⟩
    · obtain ⟨⟨us, z⟩, _⟩ := S.mu_some (p.mu m)
      rw [h0] at z; cases z
    · rw [e] at eb; cases eb; exact h0
def storeOf (i : Nat) (h : Hd) : M Fl := fun ρ => match h with
  | .v r => (match put i r ρ with
    | some ρ' => .ok .next ρ'
    | none => .bad)
  | .s _ => .bad
def mSet (i : Nat) (m : M Hd) : M Fl := fun ρ => (mEsr m ρ).bind (storeOf i)
theorem set_in {i : Nat} {m : M Hd} {D : Ends} (h : tS w (mSet i m) D σ H) : tAsg (tK w (mEsr m)) (gName i) D σ H := by
  obtain ⟨F, ρ, S, h⟩ := h
  refine ⟨F, ρ, S, ?_⟩
  unfold mSet at h
  cases e1 : mEsr m ρ with
  | bad => rw [e1] at h; exact h
  | exc x ρ1 => rw [e1] at h; exact fun F' H' cls d p hx => h cls d σ F' H' p.toS hx
  | ok k ρ1 =>
    rw [e1] at h
    intro F1 H1 p v hv
    have h : WpS w F ρ σ H (storeOf i k ρ1) D := h
    unfold storeOf at h
    cases k with
    | s _ => exact h.elim
    | v r =>
      have hv : RVok w.K F1 H H1 v r := hv
      split at h
      · rename_i r' e
        cases e
        split at h
        · rename_i ρ2 e2
          obtain ⟨o, n⟩ := hv.own S p
          exact h _ F1 H1 (put_step p.toS e2 o n)
        · exact h.elim
      · rename_i e; cases e
theorem ss_set {i : Nat} {x : Str} {e : Expr} {m : M Hd} {pos pos' : Pos} (hN : X.N.Nodup) (hi : X.N[i]? = some x) (hx : Loc X.env.scope x) (he : PE X e (tK w m)) (hs : swapsWith e (some (.Name x pos')) pos.line X.env = pure false) (hf : X.fn x = true ∨ X.env.scope.names.lookup x = some .local) :
    PS X (.Assign [.Name x pos'] e pos) (tS w (mSet i m)) := PSimp (ps_set hN hi hx (se_esr he) hs hf) fun _ _ _ h => set_in h
/-- the same where the value is a comprehension that is stored within its frame -/
theorem esr_v {m : M Hd} {vs : List Nat} {mi : M (List D)} {tg : Tg} {c e : M Hd} (h : m = mComp vs mi tg c e) : mEsr m = m := by
  subst h
  funext ρ
  unfold mEsr mComp
  cases mi ρ with
  | bad => rfl
  | exc x ρ1 => rfl
  | ok ds ρ1 =>
    show Res.bind (if ds.length ≤ lim then _ else _) esr = if ds.length ≤ lim then _ else _
    split
    · cases noExc (compRun vs tg c e ds (wipeE vs ρ1)) <;> rfl
    · rfl
end
end Pu
set_option Elab.async false
set_option linter.all false
set_option maxRecDepth 100000
set_option maxHeartbeats 1000000
/-! Pu9: the pure layer: comprehensions as values, more stores, loops. -/
namespace Pu
open PySem L2 PyProof.Rows
section
variable {w : Wi} {X : Cx} {F F1 H H1 : Hp} {ρ ρ1 : Ev} {σ σ1 : L2.St}
theorem PTsimp {X : Cx} {ifs : List Expr} {t t' : TT} (h : PTs X ifs t) (i : ∀ σ H Q, t' σ H Q → t σ H Q) : PTs X ifs t' := ⟨fun pins s σ H Q I q => h.run pins s σ H Q I (i σ H Q q)⟩
theorem sts_nil : PTs X [] (tT w (mC (.bool true))) := PTsimp pts_nil fun _ _ _ h => tT_C h
theorem sts_one {c : Expr} {m : M Hd} (h : PT X c (tT w m)) : PTs X [c] (tT w m) := pts_one h
theorem se_lc {elt tg iter : Expr} {ifs : List Expr} {scope : Scope} {own : List (Str × Nat)} {pos : Pos} {mi : M (List D)} {t : Tg} {mc me : M Hd} (hc : X.calm = true) (hN : X.N.Nodup) (hi : PI X tg iter (tI w mi)) (ok : BlkOk X.N X.env.scope scope own)
    (hs : ∀ i ∈ t.slots, i ∈ own.map (·.2)) (hg : ∀ (s : Shared) (H : Hp) (C : Addr) (cl : List (Str × Addr)) (fp : List Addr), PG (X.blk s H scope (compEnvC scope cl C X.env) fp) tg (tG w.blk t))
    (ht : ∀ (s : Shared) (H : Hp) (C : Addr) (cl : List (Str × Addr)) (fp : List Addr), PTs (X.blk s H scope (compEnvC scope cl C X.env) fp) ifs (tT w.blk mc))
    (he : ∀ (s : Shared) (H : Hp) (C : Addr) (cl : List (Str × Addr)) (fp : List Addr), PE (X.blk s H scope (compEnvC scope cl C X.env) fp) elt (tK w.blk me)) (hf : ∀ x, foldedSetIterable iter X.env x = pure x) :
    PE X (.ListComp elt [⟨tg, iter, ifs, 0⟩] scope pos) (tK w (mComp (own.map (·.2)) mi t mc me)) :=
  PEimp (pe_lc hc hN hi ok hg ht (fun s H C cl fp => se_esc (he s H C cl fp)) hf) fun _ _ _ h => comp_in hs h
theorem ss_setLc {i : Nat} {y : Str} {py : Pos} {elt tg iter : Expr} {ifs : List Expr} {scope : Scope} {own : List (Str × Nat)} {pos spos : Pos} {mi : M (List D)} {t : Tg} {mc me : M Hd} (hc : X.calm = true) (hN : X.N.Nodup) (hy : X.N[i]? = some y) (hyl : X.env.scope.names.lookup y = some .local)
    (hsw : swapsWith (.ListComp elt [⟨tg, iter, ifs, 0⟩] scope pos) (some (.Name y py)) spos.line X.env = pure true) (hi : PI X tg iter (tI w mi)) (ok : BlkOk X.N X.env.scope scope own)
    (hs : ∀ i ∈ t.slots, i ∈ own.map (·.2)) (hg : ∀ (s : Shared) (H : Hp) (C : Addr) (cl : List (Str × Addr)) (fp : List Addr), PG (X.blk s H scope (compEnvC scope cl C X.env) fp) tg (tG w.blk t))
    (ht : ∀ (s : Shared) (H : Hp) (C : Addr) (cl : List (Str × Addr)) (fp : List Addr), PTs (X.blk s H scope (compEnvC scope cl C X.env) fp) ifs (tT w.blk mc))
    (he : ∀ (s : Shared) (H : Hp) (C : Addr) (cl : List (Str × Addr)) (fp : List Addr), PE (X.blk s H scope (compEnvC scope cl C X.env) fp) elt (tK w.blk me)) (hf : ∀ x, foldedSetIterable iter X.env x = pure x) :
    PS X (.Assign [.Name y py] (.ListComp elt [⟨tg, iter, ifs, 0⟩] scope pos) spos) (tS w (mSet i (mComp (own.map (·.2)) mi t mc me))) := by
  refine PSimp (ps_setLc hc hN hy hyl hsw hi ok hg ht (fun s H C cl fp => se_esc (he s H C cl fp)) hf) fun D σ H h => ?_
  have z := set_in h
  rw [esr_v rfl] at z
  exact comp_in hs z

/-! ### several names at once -/
def pputs : List Nat → List Hd → Ev → Option Ev
  | [], [], ρ => some ρ
  | i :: is, .v r :: hs, ρ => (put i r ρ).bind (pputs is hs)
  | _, _, _ => none
def mPar (is : List Nat) (ms : List (M Hd)) : M Fl := fun ρ => (mArgs ms ρ).bind fun hs ρ1 => match pputs is hs ρ1 with
  | some ρ2 => .ok .next ρ2
  | none => .bad
def sets : List Nat → List V → L2.St → L2.St
  | i :: is, v :: vs, σ => sets is vs (σ.set i (some v))
  | _, _, σ => σ
def OwnAll (K : PySem.W.Frag) (F1 : Hp) (ρ1 : Ev) (σ1 : L2.St) (H H1 : Hp) : List V → List Hd → Prop
  | v :: vs, .v r :: hs => Own1 K F1 ρ1 σ1 H1 v r ∧ (∀ a, v = .ref a → (∃ xs, r = .fr xs) → H a = none) ∧ Apt v (.v r) vs hs ∧ OwnAll K F1 ρ1 σ1 H H1 vs hs
  | _ :: vs, _ :: hs => OwnAll K F1 ρ1 σ1 H H1 vs hs
  | _, _ => True
theorem OwnAll.of {K : PySem.W.Frag} (S : St K F ρ σ H) (p : StpE K F ρ σ H F1 ρ1 H1) : ∀ {vs : List V} {hs : List Hd}, HdsOk K F1 ρ1 σ H H1 vs hs → OwnAll K F1 ρ1 σ H H1 vs hs
  | [], [], _ => trivial
  | v :: vs, .v r :: hs, ⟨a, b, c⟩ =>
    let z := RVok.own S p (show RVok K F1 H H1 v r from a)
    ⟨z.1, z.2, c, OwnAll.of S p b⟩
  | v :: vs, .s i :: hs, ⟨a, b, c⟩ => by unfold OwnAll; exact OwnAll.of S p b
  | [], _ :: _, h => h.elim
  | _ :: _, [], h => h.elim
theorem OwnAll.put {K : PySem.W.Frag} {i : Nat} {r : RV} {v : V} {ρ2 : Ev} (e : put i r ρ1 = some ρ2) : ∀ {vs : List V} {hs : List Hd}, Apt v (.v r) vs hs → OwnAll K F1 ρ1 σ1 H H1 vs hs → OwnAll K F1 ρ2 (σ1.set i (some v)) H H1 vs hs
  | u :: vs, .v q :: hs, ap, ⟨a, b, c, d⟩ => by
    have ap' : Apt v (.v r) vs hs := fun xs ex w ys m => ap xs ex w ys (List.mem_cons_of_mem _ m)
    refine ⟨?_, b, c, OwnAll.put e ap' d⟩
    cases q with
    | fz d => exact a
    | fr ys =>
      obtain ⟨x, us, e1, h1, h2, h3, h4⟩ := a
      refine ⟨x, us, e1, h1, h2, fun m => ?_, h4⟩
      obtain ⟨y, _, _, er⟩ := put_some e
      rw [er] at m
      rcases m.putR with m | ⟨ev, zs, ez⟩
      · exact h3 m
      · exact ap zs (by rw [ez]) u ys List.mem_cons_self (by rw [e1, ev])
  | u :: vs, .s _ :: hs, ap, d => OwnAll.put e (vs := vs) (hs := hs) (fun xs ex w ys m => ap xs ex w ys (List.mem_cons_of_mem _ m)) d
  | [], _, _, _ => by unfold OwnAll; trivial
  | _ :: _, [], _, _ => by unfold OwnAll; trivial
theorem pputs_step {K : PySem.W.Frag} : ∀ {is : List Nat} {vs : List V} {hs : List Hd} {ρ1 ρ2 : Ev} {σ1 : L2.St}, vs.length = hs.length → StpS K F ρ σ H F1 ρ1 σ1 H1 → OwnAll K F1 ρ1 σ1 H H1 vs hs → pputs is hs ρ1 = some ρ2 → vs.length = is.length ∧ StpS K F ρ σ H F1 ρ2 (sets is vs σ1) H1
  | [], [], [], _, _, _, _, p, _, e => by cases e; exact ⟨rfl, p⟩
  | [], _ :: _, [], _, _, _, l, _, _, _ => by cases l
  | [], _, _ :: _, _, _, _, _, _, _, e => by cases e
  | i :: is, [], .v r :: hs, _, _, _, l, _, _, _ => by cases l
  | i :: is, v :: vs, .v r :: hs, ρ1, ρ2, σ1, l, p, ⟨o, n, ap, t⟩, e => by
    have e : (put i r ρ1).bind (pputs is hs) = some ρ2 := e
    cases e1 : put i r ρ1 with
    | none => rw [e1] at e; cases e
    | some ρ3 =>
      rw [e1] at e
      obtain ⟨l2, q⟩ := pputs_step (vs := vs) (by simpa using l) (put_step p e1 o n) (OwnAll.put e1 ap t) e
      exact ⟨by simp only [List.length_cons, l2], q⟩
  | i :: is, _, .s _ :: hs, _, _, _, _, _, _, e => by cases e
  | i :: is, _, [], _, _, _, _, _, _, e => by cases e
theorem HdsOk.len {K : PySem.W.Frag} {F' : Hp} {ρ' : Ev} {σ : L2.St} {H H' : Hp} : ∀ {vs : List V} {hs : List Hd}, HdsOk K F' ρ' σ H H' vs hs → vs.length = hs.length
  | [], [], _ => rfl
  | v :: vs, h :: hs, ⟨_, b, _⟩ => by simp only [List.length_cons, HdsOk.len b]
  | [], _ :: _, h => h.elim
  | _ :: _, [], h => h.elim
theorem par_in {is : List Nat} {ms : List (M Hd)} {D : Ends} (h : tS w (mPar is ms) D σ H) : tA w (mArgs ms) σ H fun vs H1 => ∃ F ρ F1 ρ2, St w.K F ρ σ H ∧ vs.length = is.length ∧ StpS w.K F ρ σ H F1 ρ2 (sets is vs σ) H1 ∧ ∀ σ' F' H', StpS w.K F ρ σ H F' ρ2 σ' H' → D.nx σ' H' := by
  obtain ⟨F, ρ, S, h⟩ := h
  refine ⟨F, ρ, S, ?_⟩
  unfold mPar at h
  cases e1 : mArgs ms ρ with
  | bad => rw [e1] at h; exact h
  | exc x ρ1 => rw [e1] at h; exact fun F' H' cls d p hx => h cls d σ F' H' p.toS hx
  | ok hs ρ1 =>
    rw [e1] at h
    have h : WpS w F ρ σ H (match pputs is hs ρ1 with | some ρ2 => .ok .next ρ2 | none => .bad) D := h
    intro F1 H1 p vs hv
    split at h
    · rename_i ρ2 e2
      obtain ⟨l, q⟩ := pputs_step hv.len p.toS (OwnAll.of S p hv) e2
      exact ⟨F, ρ, F1, ρ2, S, l, q, h⟩
    · exact h.elim
theorem ss_par2 {i j : Nat} {x y : Str} {a b : Expr} {px py pt pos : Pos} {kt k2 pt2} {ms : List (M Hd)} (hc : X.calm = true) (hN : X.N.Nodup) (hi : X.N[i]? = some x) (hj : X.N[j]? = some y) (hij : i ≠ j) (hx : X.env.scope.names.lookup x = some .local) (hy : X.env.scope.names.lookup y = some .local)
    (ha : PA X [a, b] (tA w (mArgs ms))) (hw : swappedStores [.Tuple [.Name x px, .Name y py] kt pt] (.Tuple [a, b] k2 pt2) X.env = pure (some [x, y])) (hs : swapsWithSole [.Tuple [.Name x px, .Name y py] kt pt] (.Tuple [a, b] k2 pt2) pos.line X.env = pure false) :
    PS X (.Assign [.Tuple [.Name x px, .Name y py] kt pt] (.Tuple [a, b] k2 pt2) pos) (tS w (mPar [i, j] ms)) := by
  refine PSimp (ps_par hc hN hi hj hij hx hy ha hw hs) fun D σ H h => TA_mono (par_in h) fun vs H1 ⟨F, ρ, F1, ρ2, S, l, q, k⟩ => ?_
  match vs, l with
  | [v, u], _ => exact ⟨v, u, rfl, k _ _ _ q⟩
theorem ss_par3 {i j l : Nat} {x y z : Str} {a b c : Expr} {px py pz pt pos : Pos} {kt k2 pt2} {ms : List (M Hd)} (hc : X.calm = true) (hN : X.N.Nodup) (hi : X.N[i]? = some x) (hj : X.N[j]? = some y) (hl : X.N[l]? = some z) (hij : i ≠ j) (hil : i ≠ l) (hjl : j ≠ l)
    (hx : X.env.scope.names.lookup x = some .local) (hy : X.env.scope.names.lookup y = some .local) (hz : X.env.scope.names.lookup z = some .local) (ha : PA X [a, b, c] (tA w (mArgs ms)))
    (hw : swappedStores [.Tuple [.Name x px, .Name y py, .Name z pz] kt pt] (.Tuple [a, b, c] k2 pt2) X.env = pure (some [x, y, z])) (hs : swapsWithSole [.Tuple [.Name x px, .Name y py, .Name z pz] kt pt] (.Tuple [a, b, c] k2 pt2) pos.line X.env = pure false) :
    PS X (.Assign [.Tuple [.Name x px, .Name y py, .Name z pz] kt pt] (.Tuple [a, b, c] k2 pt2) pos) (tS w (mPar [i, j, l] ms)) := by
  refine PSimp (ps_par3 hc hN hi hj hl hij hil hjl hx hy hz ha hw hs) fun D σ H h => TA_mono (par_in h) fun vs H1 ⟨F, ρ, F1, ρ2, S, n, q, k⟩ => ?_
  match vs, n with
  | [v, u, t], _ => exact ⟨v, u, t, rfl, k _ _ _ q⟩
def gNs (is : List Nat) : TGs := fun vs σ H Q => vs.length = is.length ∧ Q (sets is vs σ) H
theorem gns_nil : PGs X [] (gNs []) := PGsimp pgs_nil fun vs σ H Q ⟨l, q⟩ => by
  match vs, l with
  | [], _ => exact ⟨rfl, q⟩
theorem gns_cons {e : Expr} {es : List Expr} {i : Nat} {is : List Nat} (h1 : PG X e (gName i)) (h2 : PGs X es (gNs is)) (hs : (assignEach (e :: es) X.env).map (·.2) = assign e X.env :: (assignEach es X.env).map (·.2)) : PGs X (e :: es) (gNs (i :: is)) :=
  PGsimp (pgs_cons h1 h2 hs) fun vs σ H Q ⟨l, q⟩ => by
    match vs, l with
    | v :: vs, l => exact ⟨v, vs, rfl, by simpa using l, q⟩
theorem ss_parN {is : List Nat} {ts es : List Expr} {pt pos : Pos} {kt k2 pt2} {ms : List (M Hd)} (hz : is.length ≤ lim) (hc : X.calm = true) (ha : PA X es (tA w (mArgs ms))) (hg : PGs X ts (gNs is)) (hn : (assignEach ts X.env).length = is.length) (hst : (assignEach ts X.env).findIdx? (·.1) = none)
    (hs : swapsWithSole [.Tuple ts kt pt] (.Tuple es k2 pt2) pos.line X.env = pure false) (hw : swappedStores [.Tuple ts kt pt] (.Tuple es k2 pt2) X.env = pure none) (h1 : (assignEach [.Tuple ts kt pt] X.env).map (·.2) = [assign (.Tuple ts kt pt) X.env]) :
    PS X (.Assign [.Tuple ts kt pt] (.Tuple es k2 pt2) pos) (tS w (mPar is ms)) := by
  refine PSimp (ps_asg (pe_tup ha) (pg_tup hc hg hn hst) hs hw h1) fun D σ H h => TA_mono (par_in h) fun vs H1 ⟨F, ρ, F1, ρ2, S, l, q, k⟩ => ⟨lim_le (by rw [l]; exact hz), fun p hp => ⟨p, vs, rfl, .of upd_same, l, l, ?_⟩⟩
  have m : Mk w.K F1 H1 .non F1 (upd H1 p (.tup vs)) (.fz .none) := ⟨sub_upd hp, Sub.refl _, q.st.le.trans (sub_upd hp), fun _ _ h => .inl h, .non⟩
  exact k _ _ _ (q.trans (q.st.made m).toS)

/-! ### a, b = e -/
theorem put1_io {i j : Nat} {d : D} {xs : List D} {ρ ρ' : Ev} (h : put1 i d ρ = some ρ') (hj : ρ[j]? = some (some (.io xs))) : j ≠ i := fun z => by
  subst z
  obtain ⟨x, h1, h2, _⟩ := put1_some h
  rw [hj] at h1
  exact h2 xs (Option.some.inj h1).symm
theorem puts_io {j : Nat} {xs : List D} : ∀ {is : List Nat} {ds : List D} {ρ ρ' : Ev}, puts is ds ρ = some ρ' → ρ[j]? = some (some (.io xs)) → j ∉ is
  | [], [], _, _, _, _ => by simp
  | [], _ :: _, _, _, h, _ => by cases h
  | _ :: _, [], _, _, h, _ => by cases h
  | i :: is, d :: ds, ρ, ρ', h, hj => by
    have h : (put1 i d ρ).bind (puts is ds) = some ρ' := h
    cases e1 : put1 i d ρ with
    | none => rw [e1] at h; cases h
    | some ρ1 =>
      rw [e1] at h
      have n1 := put1_io e1 hj
      have n2 := puts_io h ((put1_ne e1 n1).trans hj)
      intro m
      rcases List.mem_cons.mp m with z | z
      · exact n1 z
      · exact n2 z
theorem asg_io {j : Nat} {xs : List D} {t : Tg} {d : D} {ρ ρ' : Ev} (h : asg t d ρ = some ρ') (hj : ρ[j]? = some (some (.io xs))) : j ∉ t.slots := by
  cases t with
  | n i =>
    intro m
    exact put1_io h hj (List.mem_singleton.mp m)
  | t l =>
    cases d with
    | tuple ds => exact puts_io h hj
    | list ds => exact puts_io h hj
    | none => cases h
    | bool _ => cases h
    | int _ => cases h
    | str _ => cases h
    | dict _ => cases h
theorem asg_step {K : PySem.W.Frag} {F F1 H H1 : Hp} {ρ ρ1 ρ2 : Ev} {σ σ1 σ2 : L2.St} {t : Tg} {d : D} (p : StpS K F ρ σ H F1 ρ1 σ1 H1) (h : asg t d ρ1 = some ρ2) (S2 : St K F1 ρ2 σ2 H1) (c : Chg t.slots σ1 σ2) (m : ∀ b, Mu ρ2 σ2 b → Mu ρ1 σ1 b) : StpS K F ρ σ H F1 ρ2 σ2 H1 := by
  refine ⟨S2, p.le, p.keep, p.dom, p.new, fun b z => p.mu b (m b z), fun i xs hi => ?_⟩
  obtain ⟨⟨ys, g1⟩, g2⟩ := p.io i xs hi
  have n := asg_io h g1
  exact ⟨⟨ys, by rw [asg_ne h n]; exact g1⟩, (c.2 i n).trans g2⟩
def asgOf (t : Tg) (h : Hd) : M Fl := fun ρ => match kept h with
  | some d => (match asg t d ρ with
    | some ρ' => .ok .next ρ'
    | none => .bad)
  | none => .bad
def mAsg (t : Tg) (m : M Hd) : M Fl := fun ρ => (mEsc m ρ).bind (asgOf t)
theorem ss_asg {t : Tg} {tg e : Expr} {m : M Hd} {pos : Pos} (he : PE X e (tK w m)) (hg : PG X tg (tG w t)) (hs : swapsWithSole [tg] e pos.line X.env = pure false) (hw : swappedStores [tg] e X.env = pure none) (h1 : (assignEach [tg] X.env).map (·.2) = [assign tg X.env]) : PS X (.Assign [tg] e pos) (tS w (mAsg t m)) := by
  refine PSimp (ps_asg (se_esc he) hg hs hw h1) fun D σ H ⟨F, ρ, S, h⟩ => ⟨F, ρ, S, (WpS.bind h).mono fun k ρ1 F1 H1 ⟨p, q⟩ v hv => ?_⟩
  unfold asgOf at q
  split at q
  · rename_i d ek
    split at q
    · rename_i ρ2 ea
      rw [kept_some ek] at hv
      exact ⟨F1, ρ1, d, ρ2, p.st, hv, ea, fun σ' S' c m => q _ _ _ (asg_step (.refl p.st) ea S' c m)⟩
    · exact q.elim
  · exact q.elim

/-! ### a list of one's own is changed -/
def lstAt (k : Nat) (ρ : Ev) : Option (List D) := match ρ[k]? with
  | some (some (.own xs)) => some xs
  | some (some (.io xs)) => some xs
  | _ => none
def setAt (k : Nat) (ys : List D) (ρ : Ev) : Ev := match ρ[k]? with
  | some (some (.io _)) => ρ.set k (some (.io ys))
  | _ => ρ.set k (some (.own ys))
theorem lstAt_some {k : Nat} {xs ys : List D} {ρ : Ev} (h : lstAt k ρ = some xs) : ∃ s s', ρ[k]? = some (some s) ∧ s.mu = true ∧ s'.mu = true ∧ (∀ {K : PySem.W.Frag} {F H : Hp} {v : V}, SlOk K F H v s → ∃ a vs, v = .ref a ∧ H a = some (.lst vs) ∧ F a = none ∧ RpAll K F vs xs) ∧
    (∀ {K : PySem.W.Frag} {F H : Hp} {a : Addr} {vs : List V}, H a = some (.lst vs) → F a = none → RpAll K F vs ys → SlOk K F H (.ref a) s') ∧ SlLe (some s) (some s') ∧ setAt k ys ρ = ρ.set k (some s') := by
  unfold lstAt at h
  unfold setAt
  split at h
  · rename_i zs e
    cases h
    exact ⟨_, .own ys, e, rfl, rfl, fun z => z, fun h1 h2 h3 => ⟨_, _, rfl, h1, h2, h3⟩, .inl ⟨_, rfl⟩, by rw [e]⟩
  · rename_i zs e
    cases h
    exact ⟨_, .io ys, e, rfl, rfl, fun z => z, fun h1 h2 h3 => ⟨_, _, rfl, h1, h2, h3⟩, ⟨_, rfl⟩, by rw [e]⟩
  · cases h
theorem St.change {K : PySem.W.Frag} {F H : Hp} {ρ : Ev} {σ : L2.St} {k : Nat} {xs : List D} (S : St K F ρ σ H) (h : lstAt k ρ = some xs) : ∃ a vs, σ[k]? = some (some (.ref a)) ∧ H a = some (.lst vs) ∧ RpAll K F vs xs ∧
    ∀ us ys, RpAll K F us ys → StpE K F ρ σ H F (setAt k ys ρ) (upd H a (.lst us)) := by
  obtain ⟨s, s', hs, ms, ms', ok1, _⟩ := lstAt_some (ys := []) h
  obtain ⟨v, ev, ok⟩ := S.slot k s hs
  obtain ⟨a, vs, rfl, h1, h2, h3⟩ := ok1 ok
  refine ⟨a, vs, ev, h1, h3, fun us ys r => ?_⟩
  obtain ⟨t, t', ht, mt, mt', ok2, ok3, le, e⟩ := lstAt_some (ys := ys) h
  rw [hs] at ht; cases ht
  have mua : Mu ρ σ a := ⟨k, s, hs, ms, ev⟩
  have hk : k < ρ.length := (List.getElem?_eq_some_iff.mp hs).1
  rw [e]
  have nF : ∀ {b : Addr} {o : HO}, F b = some o → b ≠ a := fun {b o} q z => by rw [z, h2] at q; cases q
  refine ⟨⟨by rw [List.length_set]; exact S.len, fun b o q => by rw [upd_ne (nF q)]; exact S.le b o q, fun j u hu => ?_, fun i j u v b hi hj mu mv ei ej => ?_⟩, Sub.refl _, fun b o q n => ?_, fun b q => ?_, fun b o q => .inl q, fun i => ?_⟩
  · rcases set_get hu with ⟨z, eu⟩ | ⟨z, hu⟩
    · subst z; cases eu
      exact ⟨.ref a, ev, ok3 upd_same h2 r⟩
    · obtain ⟨x, ex, okx⟩ := S.slot j u hu
      refine ⟨x, ex, ?_⟩
      have ne : ∀ {b : Addr}, u.mu = true → x = .ref b → b ≠ a := fun {b} mu eb z' => z (S.inj j k u s a hu hs mu ms (by rw [ex, eb, z']) ev)
      cases u with
      | frz d => exact okx
      | own zs =>
        obtain ⟨b, us', q1, q2, q3, q4⟩ := okx
        exact ⟨b, us', q1, by rw [upd_ne (ne rfl q1)]; exact q2, q3, q4⟩
      | io zs =>
        obtain ⟨b, us', q1, q2, q3, q4⟩ := okx
        exact ⟨b, us', q1, by rw [upd_ne (ne rfl q1)]; exact q2, q3, q4⟩
  · rcases set_get hi with ⟨z, eu⟩ | ⟨z, hi'⟩
    · rcases set_get hj with ⟨z2, eu2⟩ | ⟨z2, hj'⟩
      · rw [z, z2]
      · subst z
        exact S.inj i j s v b hs hj' ms mv ei ej
    · rcases set_get hj with ⟨z2, eu2⟩ | ⟨z2, hj'⟩
      · subst z2
        exact S.inj i j u s b hi' hs mu ms ei ej
      · exact S.inj i j u v b hi' hj' mu mv ei ej
  · rw [upd_ne fun z => n (by rw [z]; exact mua)]
    exact q
  · by_cases hb : b = a
    · subst hb; rw [upd_same] at q; cases q
    · rw [upd_ne hb] at q; exact q
  · by_cases hi : i = k
    · subst hi
      rw [join_some.mpr hs, List.getElem?_set_self hk]
      exact le
    · rw [List.getElem?_set_ne fun z => hi z.symm]
      exact SlLe.refl _
/-- xs[i] = e -/
def mStore (k : Nat) (mi me : M Hd) : M Fl := fun ρ => (mEsc me ρ).bind fun hv ρ1 => match lstAt k ρ1 with
  | none => .bad
  | some _ => (mi ρ1).bind fun hi ρ2 => match kept hv, rd hi ρ2, lstAt k ρ2 with
    | some d, some (.int i), some xs => (match ixN xs.length i with
      | some j => .ok .next (setAt k (xs.set j d) ρ2)
      | none => .bad)
    | _, _, _ => .bad
theorem se_slot {k : Nat} {x : Str} {pos : Pos} (hN : X.N[k]? = some x) (hv : Vis X.env.scope x) (hd : (x == ("__debug__" : Str)) = false) (hcd : (x == ("__classdict__" : Str)) = false) : PE X (.Name x pos) (tVar k) := pe_var hN hv hd hcd
theorem ss_store {k : Nat} {x : Str} {i e : Expr} {mi me : M Hd} {px ps pos : Pos} (hN : X.N[k]? = some x) (hv : Vis X.env.scope x) (hd : (x == ("__debug__" : Str)) = false) (hcd : (x == ("__classdict__" : Str)) = false) (hi : PE X i (tK w mi)) (he : PE X e (tK w me))
    (ha : ∀ v, assign (.Subscript (.Name x px) i ps) X.env v = (do
      let ov ← holding [v] (eval (.Name x px) X.env)
      let iv ← holding [v, ov] (eval i X.env)
      standAt ps
      holding [v, ov, iv] (setItem ov iv v)
      release [v, ov, iv] []))
    (hs : swapsWithSole [.Subscript (.Name x px) i ps] e pos.line X.env = pure false) (hw : swappedStores [.Subscript (.Name x px) i ps] e X.env = pure none) (h1 : (assignEach [.Subscript (.Name x px) i ps] X.env).map (·.2) = [assign (.Subscript (.Name x px) i ps) X.env]) :
    PS X (.Assign [.Subscript (.Name x px) i ps] e pos) (tS w (mStore k mi me)) := by
  refine PSimp (ps_asg (se_esc he) (pg_sub (se_slot hN hv hd hcd) hi set_list ha) hs hw h1) fun D σ H ⟨F, ρ, S, h⟩ => ⟨F, ρ, S, (WpS.bind h).mono fun kv ρ1 F1 H1 ⟨p, q⟩ v hv => ?_⟩
  split at q
  · exact q.elim
  · rename_i xs0 e0
    obtain ⟨a, vs0, ea, _⟩ := p.st.change e0
    refine ⟨.ref a, ea, F1, ρ1, p.st, (WpS.bind q).mono fun ki ρ2 F2 H2 ⟨p2, q2⟩ iv hiv => ?_⟩
    split at q2
    · rename_i d j xs ek ei el
      split at q2
      · rename_i jn ej
        obtain ⟨a', vs, ea', hH, hr, chg⟩ := p2.st.change el
        rw [ea] at ea'; cases ea'
        rw [kept_some ek] at hv
        have hv2 : Rp w.K F2 v d := Rp.mono p2.le _ _ hv
        refine ⟨a, vs, j, jn, rfl, (hiv.pk p2.st ei).int, hH, by rw [hr.length]; exact ej, ?_⟩
        exact q2 _ _ _ (chg _ _ (hr.set hv2 jn)).toS
      · exact q2.elim
    · exact q2.elim
/-- xs.append(e) -/
def mApp (k : Nat) (me : M Hd) : M Fl := fun ρ => match lstAt k ρ with
  | none => .bad
  | some _ => (mEsc me ρ).bind fun hv ρ1 => match kept hv, lstAt k ρ1 with
    | some d, some xs => if xs.length < lim then .ok .next (setAt k (xs ++ [d]) ρ1) else .bad
    | _, _ => .bad
theorem ss_app {k : Nat} {x : Str} {e : Expr} {me : M Hd} {px apos cpos pos : Pos} (hN : X.N[k]? = some x) (hv : Vis X.env.scope x) (hd : (x == ("__debug__" : Str)) = false) (hcd : (x == ("__classdict__" : Str)) = false) (he : PE X e (tK w me)) (hst : starEach [e] X.env = (false, eval e X.env) :: starEach [] X.env)
    (hbase : attributeBase (.Name x px) "append" X.env (eval (.Name x px) X.env) = eval (.Name x px) X.env) (hfew : ((backTo cpos (starEach [e] X.env)).all (fun x => !x.1) && (backToKw cpos (keywordEach [] X.env)).all (fun x => x.1.isSome) && decide ([e].length + ([] : List Keyword).length + (if ([] : List Keyword).isEmpty then 0 else 1) < 30)) = true)
    (hline : (apos.endLine == cpos.line) = true) (hpl : (backTo cpos (starEach [] X.env)).any (·.1) = false) (hsw : swapsWith (.Call (.Attribute (.Name x px) "append" apos) [e] [] cpos) none pos.line X.env = pure false) :
    PS X (.Expr (.Call (.Attribute (.Name x px) "append" apos) [e] [] cpos) pos) (tS w (mApp k me)) := by
  have hE : PE X (.Call (.Attribute (.Name x px) "append" apos) [e] [] cpos) (tBM X.K "list" rAppend (tVar k) (tCons (tK w (mEsc me)) tNil)) :=
    pe_bm PySem.F.plainAttrs_list PySem.F.slot_list_append PySem.F.type_list_append mt_append (se_slot hN hv hd hcd) (pa_cons (se_esc he) pa_nil hst) hbase hfew hline hst hpl
  refine PSimp (ps_expr hE hsw) fun D σ H ⟨F, ρ, S, h⟩ => ?_
  unfold mApp at h
  split at h
  · exact h.elim
  · rename_i xs0 e0
    obtain ⟨a, vs0, ea, hH0, _⟩ := S.change e0
    refine ⟨.ref a, ea, .inl ⟨rfl, _, .of hH0⟩, F, ρ, S, (WpS.bind h).mono fun kv ρ1 F1 H1 ⟨p, q⟩ v hv => ?_⟩
    split at q
    · rename_i d xs ek el
      split at q
      · rename_i hz
        obtain ⟨a', vs, ea', hH, hr, chg⟩ := p.st.change el
        rw [ea] at ea'; cases ea'
        rw [kept_some ek] at hv
        have hv : Rp w.K F1 v d := hv
        exact ⟨a, vs, v, rfl, rfl, hH, by rw [hr.length, sizeLine_eq]; exact hz, q _ _ _ (chg _ _ (hr.append (.cons hv .nil))).toS⟩
      · exact q.elim
    · exact q.elim
/-- an expression whose value is dropped -/
def mDrop (m : M Hd) : M Fl := fun ρ => (m ρ).bind fun _ ρ1 => .ok .next ρ1
theorem ss_drop {e : Expr} {m : M Hd} {pos : Pos} (he : PE X e (tK w m)) (hs : swapsWith e none pos.line X.env = pure false) : PS X (.Expr e pos) (tS w (mDrop m)) :=
  PSimp (ps_expr he hs) fun D σ H ⟨F, ρ, S, h⟩ => ⟨F, ρ, S, (WpS.bind h).mono fun k ρ1 F1 H1 ⟨p, q⟩ v hv => q _ _ _ (.refl p.st)⟩
end
end Pu
set_option Elab.async false
set_option linter.all false
set_option maxRecDepth 100000
set_option maxHeartbeats 1000000
/-! Pu10: the pure layer: loops. -/
namespace Pu
open PySem L2 PyProof.Rows
def loopEnd (again : M Fl) (f : Fl) : M Fl := match f with
  | .next => again
  | .cont => again
  | .brk => fun ρ => .ok .next ρ
  | .ret r => fun ρ => .ok (.ret r) ρ
def forRun (tg : Tg) (body : M Fl) : List D → M Fl
  | [] => fun ρ => .ok .next ρ
  | d :: ds => fun ρ => match asg tg d ρ with
    | none => .bad
    | some ρ1 => (body ρ1).bind (loopEnd (forRun tg body ds))
def mFor (mi : M (List D)) (tg : Tg) (body : M Fl) : M Fl := fun ρ => (mi ρ).bind fun ds ρ1 => forRun tg body ds ρ1
def whRun (c : M Hd) (body : M Fl) : Nat → M Fl
  | 0 => fun _ => .bad
  | n + 1 => fun ρ => (c ρ).bind fun h ρ1 => match asB h ρ1 with
    | some true => (body ρ1).bind (loopEnd (whRun c body n))
    | some false => .ok .next ρ1
    | none => .bad
def mWhile (n : Nat) (c : M Hd) (body : M Fl) : M Fl := whRun c body n
section
variable {w : Wi} {X : Cx} {F F1 H H1 : Hp} {ρ ρ1 : Ev} {σ σ1 : L2.St}
theorem WpS.loop {r : Res Fl} {again : M Fl} {D : Ends} {N : L2.St → Hp → Prop} (p : StpS w.K F ρ σ H F1 ρ1 σ1 H1) (h : WpS w F ρ σ H (r.bind (loopEnd again)) D)
    (hN : ∀ σ' F' H' ρ', StpS w.K F ρ σ H F' ρ' σ' H' → WpS w F ρ σ H (again ρ') D → N σ' H') : WpS w F1 ρ1 σ1 H1 r { D with nx := N, ct := N, bk := D.nx } := by
  match r, h with
  | .ok .next ρ', h => exact fun σ' F' H' q => hN σ' F' H' ρ' (p.trans q) h
  | .ok .cont ρ', h => exact fun σ' F' H' q => hN σ' F' H' ρ' (p.trans q) h
  | .ok .brk ρ', h => exact fun σ' F' H' q => h σ' F' H' (p.trans q)
  | .ok (.ret r) ρ', h => exact fun v σ' F' H' q rv => h v σ' F' H' (p.trans q) (rv.back p)
  | .exc x ρ', h => exact fun cls d σ' F' H' q hx => h cls d σ' F' H' (p.trans q) hx
  | .bad, h => exact h.elim
theorem ss_for {mi : M (List D)} {tg : Tg} {tge iter : Expr} {body : List Stmt} {mb : M Fl} {pos : Pos} (hp : PassesOwn (model X.prog X.w) X.A X.env X.xe) (hc : X.calm = true) (hi : PI X tge iter (tI w mi)) (hg : PG X tge (tG w tg)) (hb : PSs X body (tS w mb))
    (hs : ∀ x, foldedSetIterable iter X.env x = pure x) : PS X (.For tge iter body [] pos) (tS w (mFor mi tg mb)) := by
  refine PSimp (ps_for hp hc hi hg hb hs) fun D σ H ⟨F, ρ, S, h⟩ => ⟨F, ρ, S, ?_⟩
  unfold mFor at h
  refine (WpS.bind h).mono fun ds ρ1 F1 H1 ⟨p, q⟩ J hJ => ?_
  let W : Nat → Nat → L2.St → Hp → Prop := fun i m σ' H' => m = ds.length - i ∧ i ≤ ds.length ∧ ∃ F' ρ', StpS w.K F1 ρ1 σ H1 F' ρ' σ' H' ∧ WpS w F1 ρ1 σ H1 (forRun tg mb (ds.drop i) ρ') D
  refine ⟨W, ⟨_, rfl, Nat.zero_le _, F1, ρ1, .refl p.st, q⟩, ?_⟩
  rintro i m σi H' ⟨rfl, hi, Fi, ρi, pi, hq⟩
  by_cases hlt : i < ds.length
  · refine .inr ⟨hJ.go i H' (pi.le.trans pi.st.le) hlt, W (i + 1) (ds.length - (i + 1)), fun σ'' H'' h => ⟨_, by omega, h⟩, fun x H2 hy => ?_⟩
    obtain ⟨d, hd⟩ := at_some hlt
    obtain ⟨F2, mk⟩ := hJ.yld i d x H' H2 Fi pi.le pi.st.le hd hy
    have p2 := pi.trans (pi.st.made mk).toS
    have hdrop : ds.drop i = d :: ds.drop (i + 1) := by
      rw [List.drop_eq_getElem_cons hlt]
      rw [List.getElem?_eq_getElem hlt] at hd
      cases hd; rfl
    rw [hdrop] at hq
    unfold forRun at hq
    cases ea : asg tg d ρi with
    | none => rw [ea] at hq; exact hq.elim
    | some ρa =>
      rw [ea] at hq
      refine ⟨F2, ρi, d, ρa, p2.st, mk.rv, ea, fun σ2 S2 c2 mu2 => ⟨F2, ρa, S2, ?_⟩⟩
      have p3 := asg_step p2 ea S2 c2 mu2
      exact WpS.loop p3 hq fun σ' F' H' ρ' q' hq' => ⟨rfl, hlt, F', ρ', q', hq'⟩
  · have hi' : i = ds.length := by omega
    subst hi'
    refine .inl ⟨hJ.stop H' (pi.le.trans pi.st.le), ?_⟩
    rw [List.drop_length] at hq
    exact hq _ _ _ pi
theorem ss_while {n : Nat} {c : Expr} {mc : M Hd} {body : List Stmt} {mb : M Fl} {pos : Pos} (hp : PassesOwn (model X.prog X.w) X.A X.env X.xe) (hc : PT X c (tT w mc)) (hb : PSs X body (tS w mb)) : PS X (.While c body [] pos) (tS w (mWhile n mc mb)) := by
  refine PSimp (ps_while hp hc hb) fun D σ H ⟨F, ρ, S, h⟩ => ?_
  let W : Nat → L2.St → Hp → Prop := fun m σ' H' => ∃ F' ρ', St w.K F' ρ' σ' H' ∧ WpS w F' ρ' σ' H' (whRun mc mb m ρ') D
  refine ⟨W, ⟨n, F, ρ, S, h⟩, ?_⟩
  rintro m σi Hi ⟨Fi, ρi, Si, hq⟩
  cases m with
  | zero => exact hq.elim
  | succ m =>
    unfold whRun at hq
    refine ⟨Fi, ρi, Si, (WpS.bind hq).mono fun k ρ1 F1 H1 ⟨p1, q1⟩ => ?_⟩
    split at q1
    · rename_i eb
      exact ⟨true, asB_some eb, W m, fun σ' H' h => ⟨m, Nat.lt_succ_self m, h⟩, F1, ρ1, p1.st, WpS.loop (.refl p1.st) q1 fun σ' F' H' ρ' q' hq' => ⟨F', ρ', q'.st, WpS.later q' hq'⟩⟩
    · rename_i eb
      exact ⟨false, asB_some eb, q1 _ _ _ (.refl p1.st)⟩
    · exact q1.elim
end
end Pu
set_option Elab.async false
set_option linter.all false
set_option maxRecDepth 100000
set_option maxHeartbeats 1000000
/-! Pu11: the pure layer: defs and their calls. -/
namespace Pu
open PySem L2 PyProof.Rows
abbrev PF := List Sl → Res RV
def pfOf (n : Nat) (body : M Fl) : PF := fun sls => match body (sls.map some ++ List.replicate (n - sls.length) none) with
  | .ok .next ρ' => .ok (.fz .none) ρ'
  | .ok (.ret r) ρ' => .ok r ρ'
  | .exc x ρ' => .exc x ρ'
  | _ => .bad
structure CallS (K : PySem.W.Frag) (F : Hp) (ρ : Ev) (σ : L2.St) (H : Hp) (F' : Hp) (ρ' : Ev) (H' : Hp) : Prop where
  le : Sub F F'
  hle : Sub F' H'
  keep : ∀ b o, H b = some o → ¬ Mu ρ σ b → H' b = some o
  dom : ∀ b, H' b = none → H b = none
  new : ∀ b o, F' b = some o → F b = some o ∨ H b = none
  io : ∀ (i : Nat) xs, ρ[i]? = some (some (.io xs)) → ∃ ys a us, ρ'[i]? = some (some (.io ys)) ∧ σ[i]? = some (some (.ref a)) ∧ H' a = some (.lst us) ∧ F' a = none ∧ RpAll K F' us ys
def NoOwn (sls : List Sl) : Prop := ∀ s ∈ sls, ∀ xs, s ≠ .own xs
/-- what a def promises -/
def spP (K : PySem.W.Frag) (XR : Exn → Value → Option Addr → Hp → Prop) (n : Nat) (pf : PF) : Sp := fun vs H Q E => ∃ F sls, St K F (sls.map some) (vs.map some) H ∧ sls.length = n ∧ NoOwn sls ∧ match pf sls with
  | .bad => False
  | .ok r ρ' => ∀ v F' H', CallS K F (sls.map some) (vs.map some) H F' ρ' H' → RVok K F' H H' v r → Q v H'
  | .exc x ρ' => ∀ cls d F' H', CallS K F (sls.map some) (vs.map some) H F' ρ' H' → XR x cls d H' → E cls d H'
section
variable {K : PySem.W.Frag} {F F1 F' H H1 H' : Hp} {ρ ρ1 ρ' : Ev} {σ σ1 σ' : L2.St} {sls : List Sl} {vs : List V} {N : List Str}
theorem start_get {i : Nat} {v : V} (h : (vs.map some : List (Option V))[i]? = some (some v)) : (L2.start N vs)[i]? = some (some v) := by
  unfold L2.start
  rw [List.getElem?_append_left (List.getElem?_eq_some_iff.mp h).1]
  exact h
theorem pad_get {α : Type} {l : List α} {k i : Nat} {s : α} (h : (l.map some ++ List.replicate k none)[i]? = some (some s)) : (l.map some)[i]? = some (some s) := by
  by_cases hi : i < l.length
  · rw [List.getElem?_append_left (by simpa using hi)] at h
    exact h
  · rw [List.getElem?_append_right (by simpa using hi), List.getElem?_replicate] at h
    split at h <;> cases h
theorem pad_get' {α : Type} {l : List α} {k i : Nat} {s : α} (h : (l.map some)[i]? = some (some s)) : (l.map some ++ List.replicate k none)[i]? = some (some s) := by
  rw [List.getElem?_append_left (List.getElem?_eq_some_iff.mp h).1]
  exact h
theorem St.startP (S : St K F (sls.map some) (vs.map some) H) : St K F (sls.map some ++ List.replicate (N.length - sls.length) none) (L2.start N vs) H := by
  have hl : sls.length = vs.length := by have := S.len; simpa using this
  refine ⟨?_, S.le, fun i s h => ?_, fun i j s t a hi hj ms mt ei ej => ?_⟩
  · unfold L2.start
    simp only [List.length_append, List.length_map, List.length_replicate, hl]
  · obtain ⟨v, e, ok⟩ := S.slot i s (pad_get h)
    exact ⟨v, start_get e, ok⟩
  · exact S.inj i j s t a (pad_get hi) (pad_get hj) ms mt (pad_get (by unfold L2.start at ei; exact ei)) (pad_get (by unfold L2.start at ej; exact ej))
theorem Mu.startP {b : Addr} (m : Mu (sls.map some ++ List.replicate (N.length - sls.length) none) (L2.start N vs) b) : Mu (sls.map some) (vs.map some) b := by
  obtain ⟨i, s, h1, h2, h3⟩ := m
  exact ⟨i, s, pad_get h1, h2, pad_get (by unfold L2.start at h3; exact h3)⟩
theorem no_own (n : NoOwn sls) {i : Nat} {ys : List D} (h : (sls.map some ++ List.replicate (N.length - sls.length) none)[i]? = some (some (.own ys))) : False := by
  have h := pad_get h
  rw [List.getElem?_map] at h
  obtain ⟨s, e, z⟩ := Option.map_eq_some_iff.mp h
  cases z
  exact n _ (List.mem_of_getElem? e) ys rfl
theorem StpS.toCall (n : NoOwn sls) (p : StpS K F (sls.map some ++ List.replicate (N.length - sls.length) none) (L2.start N vs) H F' ρ' σ' H') : CallS K F (sls.map some) (vs.map some) H F' ρ' H' := by
  have io : ∀ (i : Nat) xs, (sls.map some)[i]? = some (some (Sl.io xs)) → ∃ ys a us, ρ'[i]? = some (some (.io ys)) ∧ σ'[i]? = some (some (.ref a)) ∧ (L2.start N vs)[i]? = some (some (.ref a)) ∧ H' a = some (.lst us) ∧ F' a = none ∧ RpAll K F' us ys := fun i xs h => by
    obtain ⟨⟨ys, e1⟩, e2⟩ := p.io i xs (pad_get' h)
    obtain ⟨v, ev, ok⟩ := p.st.slot i _ e1
    obtain ⟨a, us, rfl, h1, h2, h3⟩ := ok
    exact ⟨ys, a, us, e1, ev, by rw [← e2]; exact ev, h1, h2, h3⟩
  refine ⟨p.le, p.st.le, fun b o h m => p.keep b o h fun z => m z.startP, p.dom, fun b o h => ?_, fun i xs h => ?_⟩
  · rcases p.new b o h with z | z | z
    · exact .inl z
    · exact .inr z
    · obtain ⟨i, s, h1, h2, h3⟩ := z
      cases s with
      | frz d => cases h2
      | own ys => exact (no_own n h1).elim
      | io ys =>
        obtain ⟨ys, a, us, e1, e2, e3, e4, e5, e6⟩ := io i ys (pad_get h1)
        rw [h3] at e3; cases e3
        rw [h] at e5; cases e5
  · obtain ⟨ys, a, us, e1, e2, e3, e4, e5, e6⟩ := io i xs h
    exact ⟨ys, a, us, e1, pad_get (by unfold L2.start at e3; exact e3), e4, e5, e6⟩
theorem RtOk.call {v : V} {r : RV} (n : NoOwn sls) (h : RtOk K F' (sls.map some ++ List.replicate (N.length - sls.length) none) σ H H' v r) : RVok K F' H H' v r := by
  cases r with
  | fz d => exact h
  | fr xs =>
    obtain ⟨a, us, e, h0, h1, h2, h3⟩ := h
    rcases h0 with h0 | ⟨i, ys, g, _⟩
    · exact ⟨a, us, e, h0, h1, h2, h3⟩
    · exact (no_own n g).elim
end
/-- a def's body, read as a pure word, keeps the promise -/
theorem fn_pure {P : Program} {w : World} {K : PySem.W.Frag} {mg : Str → Option Value} {base : Heap} {XR : Exn → Value → Option Addr → Hp → Prop} {x qual : Str} {st : Stmt} {f : Addr} {fd : FuncData} {N ps : List Str} {k : Nat} {body : M Fl} (Fn : Fun K x qual st f fd) (S : FnScope N ps (defScope st))
    (hb : ∀ (cdv : Value) (A : Around) (outer : List Env) (s : Shared) (H : Hp) (E : XK), Room k (A.deeper (envOfC qual (defScope st) s.heap.objs.size f cdv)) →
      PSs (cxOf (L2.CX P w) P w K mg base N qual (defScope st) f cdv A outer s H E) (defBody st) (tS ⟨K, XR, fun cls d _ H => E cls d H⟩ body)) :
    FnOk P w K mg base (L2.CX P w) (k + 1) f fd ps (spP K XR ps.length (pfOf N.length body)) := by
  refine Fn.okX S (fun vs H Q E ⟨F, sls, S, l, _⟩ => ?_) fun cdv A outer s H vs Q E hr ⟨F, sls, S, l, n, h⟩ => ⟨_, hb cdv A outer s H E hr, F, _, S.startP (N := N), ?_⟩
  · have := S.len
    simp only [List.length_map] at this
    omega
  · unfold pfOf at h
    cases e : body (sls.map some ++ List.replicate (N.length - sls.length) none) with
    | bad => rw [e] at h; exact h
    | exc x ρ' =>
      rw [e] at h
      exact fun cls d σ' F' H' p hx => h cls d F' H' (p.toCall n) hx
    | ok fl ρ' =>
      rw [e] at h
      cases fl with
      | next => exact fun σ' F' H' p => h .non F' H' (p.toCall n) Rp.non
      | ret r => exact fun v σ' F' H' p rt => h v F' H' (p.toCall n) (rt.call n)
      | brk => exact h.elim
      | cont => exact h.elim

/-! ### a call -/
/-- the argument at place io may be a list that the callee changes; the others are shared -/
def slOf (h : Hd) (ρ : Ev) : Option Sl := match h with
  | .v (.fz d) => some (.frz d)
  | .v (.fr _) => none
  | .s i => match ρ[i]?.join with
    | some (.frz d) => some (.frz d)
    | some (.own xs) => some (.io xs)
    | some (.io xs) => some (.io xs)
    | none => none
def slsOf : List Hd → Ev → Option (List Sl)
  | [], _ => some []
  | h :: hs, ρ => match slOf h ρ, slsOf hs ρ with
    | some s, some ss => some (s :: ss)
    | _, _ => none
def ioAt : List Sl → Option Nat
  | [] => none
  | .io _ :: _ => some 0
  | .frz _ :: ss => (ioAt ss).map (· + 1)
  | .own _ :: ss => (ioAt ss).map (· + 1)
def ioOnce : List Sl → Bool
  | [] => true
  | .io _ :: ss => (ioAt ss).isNone
  | .frz _ :: ss => ioOnce ss
  | .own _ :: ss => false
/-- what the caller's slots are behind the call -/
def backIo (hs : List Hd) (sls : List Sl) (ρ' ρ : Ev) : Option Ev := match ioAt sls with
  | none => some ρ
  | some j => match hs[j]?, ρ'[j]? with
    | some (.s i), some (some (.io ys)) => some (setAt i ys ρ)
    | _, _ => none
def callBack (hs : List Hd) (sls : List Sl) (ρ : Ev) (r : Res RV) : Res Hd := match r with
  | .ok r ρ' => (match backIo hs sls ρ' ρ with
    | some ρ2 => .ok (.v r) ρ2
    | none => .bad)
  | .exc x ρ' => (match backIo hs sls ρ' ρ with
    | some ρ2 => .exc x ρ2
    | none => .bad)
  | .bad => .bad
def callEnd (n : Nat) (pf : PF) (hs : List Hd) : M Hd := fun ρ => match slsOf hs ρ with
  | none => .bad
  | some sls => if sls.length = n ∧ ioOnce sls = true then callBack hs sls ρ (pf sls) else .bad
def mCall (n : Nat) (pf : PF) (ms : List (M Hd)) : M Hd := fun ρ => (mArgs ms ρ).bind (callEnd n pf)
section
variable {K : PySem.W.Frag} {F F1 F' H H1 H' : Hp} {ρ ρ1 ρ' : Ev} {σ σ1 σ' : L2.St} {sls : List Sl} {vs : List V} {hs : List Hd}
/-- an argument's place -/
theorem sls_get : ∀ {hs : List Hd} {sls : List Sl}, slsOf hs ρ = some sls → sls.length = hs.length ∧ ∀ (j : Nat) s, sls[j]? = some s → ∃ h, hs[j]? = some h ∧ slOf h ρ = some s
  | [], _, e => by cases e; exact ⟨rfl, fun j s h => by simp at h⟩
  | h :: hs, sls, e => by
    unfold slsOf at e
    split at e
    · rename_i s ss e1 e2
      cases e
      obtain ⟨l, g⟩ := sls_get e2
      refine ⟨by simp [l], fun j t ht => ?_⟩
      cases j with
      | zero =>
        rw [List.getElem?_cons_zero] at ht ⊢
        cases ht
        exact ⟨h, rfl, e1⟩
      | succ j =>
        rw [List.getElem?_cons_succ] at ht ⊢
        exact g j t ht
    · cases e
theorem HdsOk.get {σ : L2.St} : ∀ {vs : List V} {hs : List Hd}, HdsOk K F' ρ' σ H H' vs hs → ∀ {j : Nat} {h : Hd}, hs[j]? = some h → ∃ v, vs[j]? = some v ∧ HdOk K F' ρ' σ H H' v h
  | [], [], _, j, h, e => by simp at e
  | v :: vs, g :: hs, ⟨a, b, _⟩, j, h, e => by
    cases j with
    | zero => rw [List.getElem?_cons_zero] at e; cases e; exact ⟨v, rfl, a⟩
    | succ j => rw [List.getElem?_cons_succ] at e; exact HdsOk.get b e
  | [], _ :: _, h, _, _, _ => h.elim
  | _ :: _, [], h, _, _, _ => h.elim
theorem ioAt_some : ∀ {sls : List Sl} {j : Nat}, ioAt sls = some j → ∃ xs, sls[j]? = some (.io xs)
  | [], _, e => by cases e
  | .io xs :: _, j, e => by cases e; exact ⟨xs, rfl⟩
  | .frz _ :: ss, j, e => by
    obtain ⟨i, h, z⟩ := Option.map_eq_some_iff.mp (show (ioAt ss).map (· + 1) = some j from e)
    subst z
    obtain ⟨xs, q⟩ := ioAt_some h
    exact ⟨xs, q⟩
  | .own _ :: ss, j, e => by
    obtain ⟨i, h, z⟩ := Option.map_eq_some_iff.mp (show (ioAt ss).map (· + 1) = some j from e)
    subst z
    obtain ⟨xs, q⟩ := ioAt_some h
    exact ⟨xs, q⟩
theorem ioAt_none : ∀ {sls : List Sl}, ioAt sls = none → ∀ (j : Nat) xs, sls[j]? ≠ some (.io xs)
  | [], _, j, xs, h => by simp at h
  | .io _ :: _, e, _, _, _ => by cases e
  | .frz _ :: ss, e, j, xs, h => by
    cases j with
    | zero => rw [List.getElem?_cons_zero] at h; cases h
    | succ j => exact ioAt_none (Option.map_eq_none_iff.mp e) j xs h
  | .own _ :: ss, e, j, xs, h => by
    cases j with
    | zero => rw [List.getElem?_cons_zero] at h; cases h
    | succ j => exact ioAt_none (Option.map_eq_none_iff.mp e) j xs h
theorem ioOnce_only : ∀ {sls : List Sl}, ioOnce sls = true → ∀ {i j : Nat} {xs ys : List D}, sls[i]? = some (.io xs) → sls[j]? = some (.io ys) → i = j
  | [], _, i, j, xs, ys, h, _ => by simp at h
  | .io _ :: ss, o, i, j, xs, ys, h1, h2 => by
    have o : (ioAt ss).isNone = true := o
    have n := ioAt_none (Option.isNone_iff_eq_none.mp o)
    cases i with
    | zero =>
      cases j with
      | zero => rfl
      | succ j => exact absurd h2 (n j ys)
    | succ i => exact absurd h1 (n i xs)
  | .frz _ :: ss, o, i, j, xs, ys, h1, h2 => by
    cases i with
    | zero => rw [List.getElem?_cons_zero] at h1; cases h1
    | succ i =>
      cases j with
      | zero => rw [List.getElem?_cons_zero] at h2; cases h2
      | succ j => rw [ioOnce_only (sls := ss) o h1 h2]
  | .own _ :: ss, o, _, _, _, _, _, _ => by cases o
theorem sls_noown : ∀ {hs : List Hd} {sls : List Sl}, slsOf hs ρ = some sls → NoOwn sls := fun {hs sls} e s h xs z => by
  obtain ⟨j, hj⟩ := List.getElem?_of_mem h
  obtain ⟨g, _, q⟩ := (sls_get e).2 j s hj
  subst z
  unfold slOf at q
  split at q
  · cases q
  · cases q
  · split at q <;> cases q
/-- the arguments, as the callee sees them -/
theorem St.args {H0 : Hp} (S : St K F ρ σ H) (hv : HdsOk K F ρ σ H0 H vs hs) (e : slsOf hs ρ = some sls) (o : ioOnce sls = true) : St K F (sls.map some) (vs.map some) H := by
  obtain ⟨l, g⟩ := sls_get e
  refine ⟨by rw [List.length_map, List.length_map, l, hv.len], S.le, fun j s h => ?_, fun i j s t a hi hj ms mt ei ej => ?_⟩
  · rw [List.getElem?_map] at h
    obtain ⟨s', h, z⟩ := Option.map_eq_some_iff.mp h
    cases z
    obtain ⟨k, hk, q⟩ := g j s h
    obtain ⟨v, ev, ok⟩ := hv.get hk
    refine ⟨v, by rw [List.getElem?_map, ev]; rfl, ?_⟩
    cases k with
    | v r =>
      cases r with
      | fz d => cases q; exact ok
      | fr xs => cases q
    | s i =>
      obtain ⟨eσ, s0, e0⟩ := ok
      obtain ⟨v', ev', ok'⟩ := S.slot i s0 e0
      rw [eσ] at ev'; cases ev'
      unfold slOf at q
      simp only [join_some.mpr e0] at q
      cases s0 with
      | frz d => cases q; exact ok'
      | own xs => cases q; exact ok'
      | io xs => cases q; exact ok'
  · rw [List.getElem?_map] at hi hj
    obtain ⟨s', hi, z⟩ := Option.map_eq_some_iff.mp hi
    cases z
    obtain ⟨t', hj, z⟩ := Option.map_eq_some_iff.mp hj
    cases z
    have n := sls_noown e
    cases s with
    | frz d => cases ms
    | own xs => exact (n _ (List.mem_of_getElem? hi) xs rfl).elim
    | io xs =>
      cases t with
      | frz d => cases mt
      | own ys => exact (n _ (List.mem_of_getElem? hj) ys rfl).elim
      | io ys => exact ioOnce_only o hi hj
theorem St.called {B : Addr → Prop} {ρ2 : Ev} (S : St K F ρ σ H) (le : Sub F F') (hle : Sub F' H') (keep : ∀ b o, H b = some o → ¬ B b → H' b = some o) (dom : ∀ b, H' b = none → H b = none) (new : ∀ b o, F' b = some o → F b = some o ∨ H b = none)
    (hB : ∀ b, B b → Mu ρ σ b) (hl : ρ2.length = ρ.length) (hsl : ∀ (k : Nat) (s : Sl), ρ2[k]? = some (some s) → (ρ[k]? = some (some s) ∧ (s.mu = true → ∀ a, σ[k]? = some (some (.ref a)) → ¬ B a)) ∨
      (∃ s0 ys a us, ρ[k]? = some (some s0) ∧ s0.mu = true ∧ (s = .own ys ∨ s = .io ys) ∧ σ[k]? = some (some (.ref a)) ∧ H' a = some (.lst us) ∧ F' a = none ∧ RpAll K F' us ys))
    (sl : ∀ k : Nat, SlLe (ρ[k]?).join (ρ2[k]?).join) : StpE K F ρ σ H F' ρ2 H' := by
  have mu0 : ∀ {k : Nat} {s : Sl}, ρ2[k]? = some (some s) → s.mu = true → ∃ s0, ρ[k]? = some (some s0) ∧ s0.mu = true := fun {k s} h m => by
    rcases hsl k s h with ⟨z, _⟩ | ⟨s0, _, _, _, z, m0, _⟩
    · exact ⟨s, z, m⟩
    · exact ⟨s0, z, m0⟩
  have at1 : ∀ {a : Addr} {us : List V}, H a = some (.lst us) → F a = none → ¬ B a → H' a = some (.lst us) ∧ F' a = none := fun {a us} h1 h2 nb => by
    refine ⟨keep _ _ h1 nb, ?_⟩
    cases e : F' a with
    | none => rfl
    | some o =>
      rcases new a o e with z | z
      · rw [h2] at z; cases z
      · rw [h1] at z; cases z
  refine ⟨⟨by rw [hl]; exact S.len, hle, fun k s h => ?_, fun i j s t a hi hj ms mt ei ej => ?_⟩, le, fun b o h n => keep b o h fun z => n (hB b z), dom, fun b o h => (new b o h).imp id .inl, sl⟩
  · rcases hsl k s h with ⟨z, nb⟩ | ⟨s0, ys, a, us, z, m0, es, ea, h1, h2, h3⟩
    · obtain ⟨v, ev, ok⟩ := S.slot k s z
      refine ⟨v, ev, ?_⟩
      cases s with
      | frz d => exact Rp.mono le _ _ ok
      | own xs =>
        obtain ⟨a, us, rfl, h1, h2, h3⟩ := ok
        obtain ⟨g1, g2⟩ := at1 h1 h2 (nb rfl a ev)
        exact ⟨a, us, rfl, g1, g2, RpAll.mono le _ _ h3⟩
      | io xs =>
        obtain ⟨a, us, rfl, h1, h2, h3⟩ := ok
        obtain ⟨g1, g2⟩ := at1 h1 h2 (nb rfl a ev)
        exact ⟨a, us, rfl, g1, g2, RpAll.mono le _ _ h3⟩
    · refine ⟨.ref a, ea, ?_⟩
      rcases es with rfl | rfl
      · exact ⟨a, us, rfl, h1, h2, h3⟩
      · exact ⟨a, us, rfl, h1, h2, h3⟩
  · obtain ⟨s0, z1, m1⟩ := mu0 hi ms
    obtain ⟨t0, z2, m2⟩ := mu0 hj mt
    exact S.inj i j s0 t0 a z1 z2 m1 m2 ei ej
theorem call_step {H0 : Hp} {ρ2 : Ev} (S : St K F ρ σ H) (hv : HdsOk K F ρ σ H0 H vs hs) (e : slsOf hs ρ = some sls) (o : ioOnce sls = true) (c : CallS K F (sls.map some) (vs.map some) H F' ρ' H') (hb : backIo hs sls ρ' ρ = some ρ2) : StpE K F ρ σ H F' ρ2 H' := by
  obtain ⟨l, g⟩ := sls_get e
  have n := sls_noown e
  have muA : ∀ {b : Addr}, Mu (sls.map some) (vs.map some) b → ∃ (j : Nat) (xs : List D), sls[j]? = some (Sl.io xs) ∧ vs[j]? = some (V.ref b) := fun {b} ⟨j, s, h1, h2, h3⟩ => by
    rw [List.getElem?_map] at h1 h3
    obtain ⟨s', h1, z⟩ := Option.map_eq_some_iff.mp h1
    cases z
    obtain ⟨v', h3, z⟩ := Option.map_eq_some_iff.mp h3
    cases z
    cases s with
    | frz d => cases h2
    | own xs => exact (n _ (List.mem_of_getElem? h1) xs rfl).elim
    | io xs => exact ⟨j, xs, h1, h3⟩
  unfold backIo at hb
  split at hb
  · rename_i e0
    cases hb
    have nb : ∀ b, ¬ Mu (sls.map some) (vs.map some) b := fun b m => by
      obtain ⟨j, xs, h, _⟩ := muA m
      exact ioAt_none e0 j xs h
    exact S.called (B := Mu (sls.map some) (vs.map some)) c.le c.hle c.keep c.dom c.new (fun b m => absurd m (nb b)) rfl (fun k s h => .inl ⟨h, fun _ a _ => nb a⟩) fun k => SlLe.refl _
  · rename_i j e0
    split at hb
    · rename_i i ys eh eρ
      cases hb
      obtain ⟨xs, hj⟩ := ioAt_some e0
      obtain ⟨h, hh, q⟩ := g j _ hj
      rw [eh] at hh; cases hh
      obtain ⟨v, ev, eσ, s0, es0⟩ := hv.get eh
      obtain ⟨ys', a, us, e1, e2, h1, h2, h3⟩ := c.io j xs (by rw [List.getElem?_map, hj]; rfl)
      rw [eρ] at e1; cases e1
      rw [List.getElem?_map, ev] at e2
      cases e2
      have m0 : s0.mu = true ∧ lstAt i ρ = some xs := by
        unfold slOf at q
        simp only [join_some.mpr es0] at q
        unfold lstAt
        cases s0 with
        | frz d => cases q
        | own zs => cases q; exact ⟨rfl, by rw [es0]⟩
        | io zs => cases q; exact ⟨rfl, by rw [es0]⟩
      obtain ⟨s1, s', hs1, ms1, ms', _, _, sle, est⟩ := lstAt_some (ys := ys) m0.2
      rw [es0] at hs1; cases hs1
      have es' : s' = .own ys ∨ s' = .io ys := by
        have z : setAt i ys ρ = ρ.set i (some s') := est
        unfold setAt at z
        have hi : i < ρ.length := (List.getElem?_eq_some_iff.mp es0).1
        rw [es0] at z
        cases s0 with
        | frz d => cases ms1
        | own zs =>
          have z := congrArg (fun l => l[i]?) z
          simp only [List.getElem?_set_self hi] at z
          cases z; exact .inl rfl
        | io zs =>
          have z := congrArg (fun l => l[i]?) z
          simp only [List.getElem?_set_self hi] at z
          cases z; exact .inr rfl
      have onlyA : ∀ b, Mu (sls.map some) (vs.map some) b → b = a := fun b m => by
        obtain ⟨j', xs', k1, k2⟩ := muA m
        have := ioOnce_only o k1 hj
        subst this
        rw [ev] at k2; cases k2; rfl
      have hi : i < ρ.length := (List.getElem?_eq_some_iff.mp es0).1
      rw [est]
      refine S.called (B := Mu (sls.map some) (vs.map some)) c.le c.hle c.keep c.dom c.new (fun b m => ?_) (by rw [List.length_set]) (fun k s h => ?_) fun k => ?_
      · rw [onlyA b m]
        exact ⟨i, s0, es0, m0.1, eσ⟩
      · rcases set_get h with ⟨z, e'⟩ | ⟨z, h⟩
        · subst z; cases e'
          exact .inr ⟨s0, ys, a, us, es0, m0.1, es', eσ, h1, h2, h3⟩
        · refine .inl ⟨h, fun ms b eb m => ?_⟩
          have := onlyA b m
          subst this
          exact z (S.inj k i s s0 b h es0 ms m0.1 eb eσ)
      · by_cases hk : k = i
        · subst hk
          rw [join_some.mpr es0, List.getElem?_set_self hi]
          exact sle
        · rw [List.getElem?_set_ne fun z => hk z.symm]
          exact SlLe.refl _
    · cases hb
end
section
variable {w : Wi} {X : Cx}
/-- what a call promises, from the words of its arguments -/
theorem call_in {pf : PF} {ms : List (M Hd)} {n : Nat} {σ : L2.St} {H : Hp} {Q : VK} (h : tK w (mCall n pf ms) σ H Q) : tCallS (spP w.K w.XR n pf) (WE w.W) (tA w (mArgs ms)) σ H Q := by
  obtain ⟨F, ρ, S, h⟩ := h
  refine ⟨F, ρ, S, (Wp.bind S h).mono fun hs ρ1 F1 H1 ⟨p, q⟩ vs hv => ?_⟩
  unfold callEnd at q
  split at q
  · exact q.elim
  · rename_i sls es
    split at q
    · rename_i ho
      refine ⟨F1, sls, p.st.args hv es ho.2, ho.1, sls_noown es, ?_⟩
      unfold callBack at q
      cases ep : pf sls with
      | bad => rw [ep] at q; exact q.elim
      | ok r ρ' =>
        rw [ep] at q
        intro v F' H' c rv
        dsimp only at q
        split at q
        · rename_i ρ2 eb
          refine q F' H' (call_step p.st hv es ho.2 c eb) v ?_
          cases r with
          | fz d => exact rv
          | fr xs =>
            obtain ⟨a, us, e, h0, h1, h2, h3⟩ := rv
            exact ⟨a, us, e, p.dom a h0, h1, h2, h3⟩
        · exact q.elim
      | exc x ρ' =>
        rw [ep] at q
        intro cls d F' H' c hx
        dsimp only at q
        split at q
        · rename_i ρ2 eb
          exact q F' H' cls d (call_step p.st hv es ho.2 c eb) hx
        · exact q.elim
    · exact q.elim
theorem se_call {pf : PF} {k : Nat} {f : Addr} {fd : FuncData} {ps : List Str} {x : Str} {p pos : Pos} {e : Expr} {es : List Expr} {ms : List (M Hd)} (hK : w.K = X.K) (F : FnOk X.prog X.w X.K X.mg X.base (L2.CX X.prog X.w) k f fd ps (spP X.K w.XR ps.length pf)) (hr : Room k X.A) (hg : Gl X x) (hm : X.mg x = some (.ref f))
    (hk : PySem.W.keepIn X.K (.ref f) = true) (hb : Binds X.K fd ps []) (tk : Takes X w.W) (ha : PA X (e :: es) (tA w (mArgs ms))) (hdb : (x == ("__debug__" : Str)) = false) (he : starEach (e :: es) X.env = (false, eval e X.env) :: starEach es X.env) (hpl : (backTo pos (starEach es X.env)).any (·.1) = false) :
    PE X (.Call (.Name x p) (e :: es) [] pos) (tK w (mCall ps.length pf ms)) :=
  PEimp (pe_callS F hr hg hm hk hb (passAt tk) ha hdb he hpl) fun σ H Q h => by
    have z := call_in h
    rw [hK] at z
    exact z
theorem se_call0 {pf : PF} {k : Nat} {f : Addr} {fd : FuncData} {x : Str} {p pos : Pos} (hK : w.K = X.K) (F : FnOk X.prog X.w X.K X.mg X.base (L2.CX X.prog X.w) k f fd [] (spP X.K w.XR 0 pf)) (hr : Room k X.A) (hg : Gl X x) (hm : X.mg x = some (.ref f))
    (hk : PySem.W.keepIn X.K (.ref f) = true) (hb : Binds X.K fd [] []) (tk : Takes X w.W) (hdb : (x == ("__debug__" : Str)) = false) : PE X (.Call (.Name x p) [] [] pos) (tK w (mCall 0 pf [])) := by
  refine ⟨fun pins s σ H Q I h => ?_⟩
  refine wpAny_Call_Name_kw (ld_glob I hg hm ?_ hdb)
  have z := call_in h
  rw [hK] at z
  have z2 : tA w (mArgs []) σ H fun vs H1 => spP X.K w.XR 0 pf vs H1 Q (WE w.W σ) := z
  have z3 : spP X.K w.XR 0 pf [] H Q (WE w.W σ) := by
    obtain ⟨F, ρ, S, h⟩ := z2
    have h : Wp w F ρ σ H (.ok [] ρ) _ := h
    exact h.ok S [] trivial
  exact PySem.W.callWith_K0 I.kIn hk (run_fnS (us := []) F hr hb (passAt tk σ) I .nil z3)
end
end Pu
set_option Elab.async false
set_option linter.all false
set_option maxRecDepth 100000
set_option maxHeartbeats 1000000
/-! Pu12: the pure layer: isinstance, list(range(..)), tuple(range(..)). -/
namespace Pu
open PySem L2 PyProof.Rows
/-! ### isinstance(e, T) -/
def isaD (T : String) (d : D) : Option Bool :=
  if T = "int" then some d.isInt else if T = "bool" then some d.isBool else if T = "str" then some d.isStr else if T = "tuple" then some d.isTuple else if T = "list" then some d.isList else if T = "dict" then some d.isDict else none
def fIsa (T : String) (d : D) : Option RV := (isaD T d).map fun b => .fz (.bool b)
def rIsaD (K : PySem.W.Frag) : List V → Hp → VK → Prop := fun xs H Q => ∃ x T d b, xs = [x, .ty T] ∧ Rp K H x d ∧ isaD T d = some b ∧ Q (.bl b) H
theorem call_isaD {X : Cx} : CallR X (.builtin "isinstance") (rIsaD X.K) := by
  intro pins s σ H xs us Q I r h
  obtain ⟨x, T, d, b, rfl, rp, ei, q⟩ := h
  cases r with
  | cons rx rr =>
    cases rr with
    | cons rt rr =>
      cases rr
      cases rt
      obtain ⟨as, rd⟩ := Rp.reads I rp rx
      have fin : ∀ tk, EP X pins σ Q (.bool b) { s with toks := tk } := fun tk => ⟨.bl b, H, I.kept (t' := tk) fun _ _ z => z, rfl, q⟩
      unfold isaD at ei
      split at ei
      · rename_i e; subst e; cases ei; exact PySem.W.isinstance_int_data rd fun tk _ => fin tk
      split at ei
      · rename_i e; subst e; cases ei; exact PySem.W.isinstance_bool_data rd fun tk _ => fin tk
      split at ei
      · rename_i e; subst e; cases ei; exact PySem.W.isinstance_str_data rd fun tk _ => fin tk
      split at ei
      · rename_i e; subst e; cases ei; exact PySem.W.isinstance_tuple_data rd fun tk _ => fin tk
      split at ei
      · rename_i e; subst e; cases ei; exact PySem.W.isinstance_list_data rd fun tk _ => fin tk
      split at ei
      · rename_i e; subst e; cases ei; exact PySem.W.isinstance_dict_data rd fun tk _ => fin tk
      · cases ei
section
variable {w : Wi} {X : Cx}
theorem se_isa {a : Expr} {T : Str} {t : String} {p p2 pos : Pos} {m : M Hd} (hK : w.K = X.K) (hg : Gl X "isinstance") (hm : X.mg "isinstance" = none) (hgT : Gl X T) (hmT : X.mg T = none) (hv : bootBuiltins T = some (.type t)) (hn : T ≠ "__name__") (hd : (T == ("__debug__" : Str)) = false) (ha : PE X a (tK w m))
    (h1 : starEach [a, .Name T p2] X.env = (false, eval a X.env) :: starEach [.Name T p2] X.env) : PE X (.Call (.Name "isinstance" p) [a, .Name T p2] [] pos) (tK w (mUn (fIsa t) m)) := by
  have hA : PA X [a, .Name T p2] (tCons (tK w m) (tCons (tC (.ty t)) tNil)) := pa_cons ha (pa_cons (pe_bltn hgT hmT hv (v := .ty t) rfl hn hd) pa_nil rfl) h1
  refine PEimp (pe_callB call_isaD hg hm PyProof.Rows.boot_isinstance hA (by decide) (by decide) h1 (by rfl)) fun σ H Q h => ?_
  have op : Op1 w.K (fun v H Q => rIsaD X.K [v, .ty t] H Q) (fIsa t) := by
    intro F H x d rv Q s px hf k
    unfold fIsa at hf
    obtain ⟨b, eb, rfl⟩ := Option.map_eq_some_iff.mp hf
    exact ⟨x, t, d, b, rfl, hK ▸ px.rpH s, eb, k _ _ _ (.val s (.bl _))⟩
  exact op1_in op h

/-! ### list(range(..)), tuple(range(..)) -/
def rgFit (a b : Int) : Bool := rgOk a b && decide ((b - a).toNat ≤ 16777216)
theorem rgFit_of {a b : Int} (h : rgFit a b = true) : RgOk a b := by
  unfold rgFit at h
  simp only [Bool.and_eq_true, decide_eq_true_eq] at h
  obtain ⟨h1, h2, h3, h4⟩ := rgOk_of h.1
  exact ⟨h1, h2, h3, h4, h.2⟩
def fRL1 (d : D) : Option RV := match d with
  | .int n => if rgFit 0 n = true then some (.fr (rgD 0 n)) else none
  | _ => none
def fRL2 (d e : D) : Option RV := match d, e with
  | .int i, .int j => if rgFit i j = true then some (.fr (rgD i j)) else none
  | _, _ => none
def fRT1 (d : D) : Option RV := match d with
  | .int n => if rgFit 0 n = true then some (.fz (.tuple (rgD 0 n))) else none
  | _ => none
def fRT2 (d e : D) : Option RV := match d, e with
  | .int i, .int j => if rgFit i j = true then some (.fz (.tuple (rgD i j))) else none
  | _, _ => none
theorem rgV_ok {K : PySem.W.Frag} {F : Hp} (a b : Int) : RpAll K F (rgV a b) (rgD a b) := by
  unfold rgV rgD
  generalize List.range (b - a).toNat = l
  induction l with
  | nil => exact .nil
  | cons i l ih => exact .cons (.int _) ih
theorem se_rl1 {a : Expr} {p p2 pos pos2 : Pos} {m : M Hd} (hc : X.calm = true) (hg : Gl X "list") (hm : X.mg "list" = none) (hg2 : Gl X "range") (hm2 : X.mg "range" = none) (ha : PE X a (tK w m)) (h1 : starEach [a] X.env = (false, eval a X.env) :: starEach [] X.env) :
    PE X (.Call (.Name "list" p) [.Call (.Name "range" p2) [a] [] pos2] [] pos) (tK w (mUn fRL1 m)) := by
  refine PEimp (pe_listRg hc hg hm (prg_1 hg2 hm2 ha h1) rfl) fun σ H Q h => ?_
  have op : Op1 w.K (fun x H Q => ∃ n, x = .int n ∧ RgOk 0 n ∧ ∀ q, H q = none → Q (.ref q) (upd H q (.lst (rgV 0 n)))) fRL1 := by
    intro F H x d rv Q s px hf k
    cases d <;> simp only [fRL1] at hf <;> try (cases hf; done)
    split at hf
    · rename_i n hz
      cases hf
      exact ⟨n, px.int, rgFit_of hz, fun q hq => k _ _ _ (.lst s hq (rgV_ok 0 n))⟩
    · cases hf
  exact op1_in op h
theorem se_rt1 {a : Expr} {p p2 pos pos2 : Pos} {m : M Hd} (hK : w.K = X.K) (hc : X.calm = true) (hg : Gl X "tuple") (hm : X.mg "tuple" = none) (hg2 : Gl X "range") (hm2 : X.mg "range" = none) (ha : PE X a (tK w m)) (h1 : starEach [a] X.env = (false, eval a X.env) :: starEach [] X.env) :
    PE X (.Call (.Name "tuple" p) [.Call (.Name "range" p2) [a] [] pos2] [] pos) (tK w (mUn fRT1 m)) := by
  refine PEimp (pe_tupRg hc hg hm (prg_1 hg2 hm2 ha h1) rfl) fun σ H Q h => ?_
  have op : Op1 w.K (fun x H Q => ∃ n, x = .int n ∧ RgOk 0 n ∧ ∀ q, H q = none → Q (.ref q) (upd H q (.tup (rgV 0 n)))) fRT1 := by
    intro F H x d rv Q s px hf k
    cases d <;> simp only [fRT1] at hf <;> try (cases hf; done)
    split at hf
    · rename_i n hz
      cases hf
      exact ⟨n, px.int, rgFit_of hz, fun q hq => k _ _ _ (.tup s hq (rgV_ok 0 n))⟩
    · cases hf
  exact op1_in op h
theorem se_rl2 {a b : Expr} {p p2 pos pos2 : Pos} {m m2 : M Hd} (hc : X.calm = true) (hg : Gl X "list") (hm : X.mg "list" = none) (hg2 : Gl X "range") (hm2 : X.mg "range" = none) (ha : PE X a (tK w m)) (hb : PE X b (tK w m2)) (h1 : starEach [a, b] X.env = (false, eval a X.env) :: starEach [b] X.env) (h2 : starEach [b] X.env = (false, eval b X.env) :: starEach [] X.env) (h3 : (backTo pos2 (starEach [b] X.env)).any (·.1) = false) :
    PE X (.Call (.Name "list" p) [.Call (.Name "range" p2) [a, b] [] pos2] [] pos) (tK w (mBin fRL2 m m2)) := by
  refine PEimp (pe_listRg hc hg hm (prg_2 hg2 hm2 ha hb h1 h2 h3) rfl) fun σ H Q h => ?_
  have op : Op2 w.K (fun x y H Q => ∃ i j, x = .int i ∧ y = .int j ∧ RgOk i j ∧ ∀ q, H q = none → Q (.ref q) (upd H q (.lst (rgV i j)))) fRL2 := by
    intro F H x y d e rv Q s px py hf k
    cases d <;> cases e <;> simp only [fRL2] at hf <;> try (cases hf; done)
    split at hf
    · rename_i i j hz
      cases hf
      exact ⟨i, j, px.int, py.int, rgFit_of hz, fun q hq => k _ _ _ (.lst s hq (rgV_ok i j))⟩
    · cases hf
  exact op2_in op h
theorem se_rt2 {a b : Expr} {p p2 pos pos2 : Pos} {m m2 : M Hd} (hc : X.calm = true) (hg : Gl X "tuple") (hm : X.mg "tuple" = none) (hg2 : Gl X "range") (hm2 : X.mg "range" = none) (ha : PE X a (tK w m)) (hb : PE X b (tK w m2)) (h1 : starEach [a, b] X.env = (false, eval a X.env) :: starEach [b] X.env) (h2 : starEach [b] X.env = (false, eval b X.env) :: starEach [] X.env) (h3 : (backTo pos2 (starEach [b] X.env)).any (·.1) = false) :
    PE X (.Call (.Name "tuple" p) [.Call (.Name "range" p2) [a, b] [] pos2] [] pos) (tK w (mBin fRT2 m m2)) := by
  refine PEimp (pe_tupRg hc hg hm (prg_2 hg2 hm2 ha hb h1 h2 h3) rfl) fun σ H Q h => ?_
  have op : Op2 w.K (fun x y H Q => ∃ i j, x = .int i ∧ y = .int j ∧ RgOk i j ∧ ∀ q, H q = none → Q (.ref q) (upd H q (.tup (rgV i j)))) fRT2 := by
    intro F H x y d e rv Q s px py hf k
    cases d <;> cases e <;> simp only [fRT2] at hf <;> try (cases hf; done)
    split at hf
    · rename_i i j hz
      cases hf
      exact ⟨i, j, px.int, py.int, rgFit_of hz, fun q hq => k _ _ _ (.tup s hq (rgV_ok i j))⟩
    · cases hf
  exact op2_in op h
end
end Pu
set_option Elab.async false
set_option linter.all false
set_option maxRecDepth 100000
set_option maxHeartbeats 1000000
/-! Pu13: the pure layer: reading expressions off the text. -/
namespace Pu
open PySem L2 PyProof.Rows
inductive Gv where
  | fn (n : Nat) (io : Option Nat) (pf : PF)
  | con (d : D)
  | blt
structure Gx where
  N : List Str
  sc : Scope
  fn : Str → Bool
  gl : List (Str × Gv)
def GvOk (w : Wi) (X : Cx) (x : Str) : Gv → Prop
  | .fn n _ pf => ∃ k f fd ps, ps.length = n ∧ FnOk X.prog X.w X.K X.mg X.base (L2.CX X.prog X.w) k f fd ps (spP X.K w.XR n pf) ∧ Room k X.A ∧ X.mg x = some (.ref f) ∧ PySem.W.keepIn X.K (.ref f) = true ∧ Binds X.K fd ps []
  | .con d => ∃ u v, X.mg x = some u ∧ RelV v u ∧ ∀ F, Rp w.K F v d
  | .blt => X.mg x = none
structure CxP (w : Wi) (X : Cx) (G : Gx) : Prop where
  kd : w.K = X.K
  nn : X.N = G.N
  nd : X.N.Nodup
  sc : X.env.scope = G.sc
  calm : X.calm = true
  fn : ∀ x, G.fn x = true → X.fn x = true
  un : X.A.units + 70 < cLine
  tk : Takes X w.W
  gk : ∀ x g, G.gl.lookup x = some g → GvOk w X x g
/-- a comprehension's frame -/
def Gx.blk (G : Gx) (scope : Scope) : Gx := { N := G.N, sc := relS scope G.sc, fn := fun x => scope.names.lookup x == some .cell, gl := G.gl }
theorem CxP.blk {w : Wi} {X : Cx} {G : Gx} (c : CxP w X G) (scope : Scope) (s : Shared) (H : Hp) (C : Addr) (cl : List (Str × Addr)) (fp : List Addr) : CxP w.blk (X.blk s H scope (compEnvC scope cl C X.env) fp) (G.blk scope) where
  kd := c.kd
  nn := c.nn
  nd := c.nd
  sc := by
    show relS scope X.env.scope = relS scope G.sc
    rw [c.sc]
  calm := c.calm
  fn := fun x h => h
  un := c.un
  tk := takes0
  gk := fun x g h => by
    have z := c.gk x g h
    cases g with
    | fn n io pf => exact z
    | con d => exact z
    | blt => exact z
def okName (x : Str) : Bool := !(x == ("__debug__" : Str)) && !(x == ("__classdict__" : Str)) && !(x == ("__name__" : Str))
def slotE (G : Gx) (x : Str) : Option Nat := match G.sc.names.lookup x with
  | some .local => let i := G.N.idxOf x; if G.N[i]? = some x then some i else none
  | some .cell => let i := G.N.idxOf x; if G.N[i]? = some x then some i else none
  | some .free => let i := G.N.idxOf x; if G.N[i]? = some x then some i else none
  | _ => none
def glob (G : Gx) (x : Str) : Option Gv := if okName x = true then (match G.sc.names.lookup x with
  | some .globalImplicit => G.gl.lookup x
  | _ => none) else none
section
variable {w : Wi} {X : Cx} {G : Gx} {x : Str}
theorem okName_of (h : okName x = true) : (x == ("__debug__" : Str)) = false ∧ (x == ("__classdict__" : Str)) = false ∧ x ≠ "__name__" := by
  unfold okName at h
  simp only [Bool.and_eq_true, Bool.not_eq_true'] at h
  exact ⟨h.1.1, h.1.2, fun z => by rw [z] at h; simp at h⟩
theorem slotE_some (c : CxP w X G) {i : Nat} (h : slotE G x = some i) : X.N[i]? = some x ∧ Vis X.env.scope x := by
  unfold slotE at h
  rw [c.nn]
  unfold Vis
  rw [c.sc]
  split at h
  · rename_i e
    dsimp only at h
    split at h
    · rename_i e2; cases h; exact ⟨e2, .inl e⟩
    · cases h
  · rename_i e
    dsimp only at h
    split at h
    · rename_i e2; cases h; exact ⟨e2, .inr (.inl e)⟩
    · cases h
  · rename_i e
    dsimp only at h
    split at h
    · rename_i e2; cases h; exact ⟨e2, .inr (.inr e)⟩
    · cases h
  · cases h
theorem glob_some (c : CxP w X G) {g : Gv} (h : glob G x = some g) : Gl X x ∧ GvOk w X x g ∧ okName x = true := by
  unfold glob at h
  split at h
  · rename_i ho
    split at h
    · rename_i e
      exact ⟨by show X.env.scope.names.lookup x = _; rw [c.sc]; exact e, c.gk x g h, ho⟩
    · cases h
  · cases h
end

/-! ### argument lists -/
def isStar : Expr → Bool
  | .Starred _ _ => true
  | _ => false
def denL (f : Expr → Option (M Hd)) : List Expr → Option (List (M Hd))
  | [] => some []
  | e :: es => if isStar e = true then none else match f e, denL f es with
    | some m, some ms => some (m :: ms)
    | _, _ => none
theorem star_cons {e : Expr} {es : List Expr} {env : Env} (h : isStar e = false) : starEach (e :: es) env = (false, eval e env) :: starEach es env := by
  cases e <;> first | rfl | cases h
theorem denL_cons {f : Expr → Option (M Hd)} {e : Expr} {es : List Expr} {ms : List (M Hd)} (h : denL f (e :: es) = some ms) : ∃ m ms', ms = m :: ms' ∧ isStar e = false ∧ f e = some m ∧ denL f es = some ms' := by
  unfold denL at h
  split at h
  · cases h
  · rename_i hs
    split at h
    · rename_i m ms' e1 e2
      cases h
      exact ⟨m, ms', rfl, by simpa using hs, e1, e2⟩
    · cases h
theorem denL_any {f : Expr → Option (M Hd)} {pos : Pos} {env : Env} : ∀ {es : List Expr} {ms : List (M Hd)}, denL f es = some ms → (backTo pos (starEach es env)).any (·.1) = false
  | [], _, _ => rfl
  | e :: es, ms, h => by
    obtain ⟨m, ms', _, hs, _, h2⟩ := denL_cons h
    rw [star_cons hs]
    have ih := denL_any (pos := pos) (env := env) h2
    unfold backTo at ih ⊢
    rw [List.map_cons, List.any_cons, ih]
    rfl
theorem denL_pa {w : Wi} {X : Cx} {f : Expr → Option (M Hd)} (hf : ∀ e m, f e = some m → PE X e (tK w m)) : ∀ {es : List Expr} {ms : List (M Hd)}, denL f es = some ms → PA X es (tA w (mArgs ms))
  | [], ms, h => by cases h; exact sa_nil
  | e :: es, ms, h => by
    obtain ⟨m, ms', rfl, hs, h1, h2⟩ := denL_cons h
    exact sa_cons (hf e m h1) (denL_pa hf h2) (star_cons hs)

/-! ### operators -/
def binF : Operator → Option (D → D → Option RV)
  | .Add => some fAdd
  | .Sub => some fSub
  | .Mult => some fMul
  | .FloorDiv => some fDiv
  | .Mod => some fMod
  | .Pow => some fPow
  | _ => none
theorem binF_ok {w : Wi} {X : Cx} (hK : w.K = X.K) {op : Operator} {f : D → D → Option RV} (h : binF op = some f) : ∃ r, OpR X (binaryOp op) r ∧ Op2 w.K r f := by
  rw [hK]
  cases op <;> simp only [binF] at h <;> cases h
  · exact ⟨_, or_add, ok_add⟩
  · exact ⟨_, op_sub, ok_sub⟩
  · exact ⟨_, or_mul, ok_mul⟩
  · exact ⟨_, op_mod, ok_mod⟩
  · exact ⟨_, op_pow, ok_pow⟩
  · exact ⟨_, op_fdiv, ok_div⟩
def cmpF : CmpOp → (D → D → Option RV)
  | .Eq => fEq
  | .NotEq => fNe
  | .Lt => fLt
  | .LtE => fLe
  | .Gt => fGt
  | .GtE => fGe
  | .Is => fIs false
  | .IsNot => fIs true
  | .In => fIn false
  | .NotIn => fIn true
theorem cmpF_ok {w : Wi} {X : Cx} (hK : w.K = X.K) (hu : X.A.units + 70 < cLine) (op : CmpOp) : ∃ r, OpR X (compareOp op) r ∧ Op2 w.K r (cmpF op) := by
  rw [hK]
  cases op
  · exact ⟨_, op_eqA hu, ok_eq⟩
  · exact ⟨_, op_neA hu, ok_ne⟩
  · exact ⟨_, op_ltA hu, ok_ord _ _⟩
  · exact ⟨_, op_leA hu, ok_ord _ _⟩
  · exact ⟨_, op_gtA hu, ok_ord _ _⟩
  · exact ⟨_, op_geA hu, ok_ord _ _⟩
  · exact ⟨_, op_isA, ok_is _⟩
  · exact ⟨_, op_isnotA, ok_is _⟩
  · exact ⟨_, or_in hu, ok_in _⟩
  · exact ⟨_, or_notin hu, ok_in _⟩

theorem ite_some {α : Type} {c : Prop} [Decidable c] {a b : Option α} {f : α} (h : (if c then a else b) = some f) : (c ∧ a = some f) ∨ (¬ c ∧ b = some f) := by
  by_cases hc : c
  · rw [if_pos hc] at h; exact .inl ⟨hc, h⟩
  · rw [if_neg hc] at h; exact .inr ⟨hc, h⟩
/-! ### built-ins by name -/
def bltF (x : Str) : Option (List D → Option RV) :=
  if x = "len" then some fLen else if x = "list" then some fList else if x = "tuple" then some fTuple else if x = "all" then some fAll else if x = "any" then some fAny else if x = "sum" then some fSum
  else if x = "max" then some fMax else if x = "min" then some fMin else if x = "abs" then some fAbs else if x = "int" then some fInt else if x = "str" then some fStr else if x = "ord" then some fOrdC else if x = "sorted" then some fSorted else none
theorem bltF_ok {w : Wi} {X : Cx} (hK : w.K = X.K) (hc : X.calm = true) (hu : X.A.units + 70 < cLine) {x : Str} {f : List D → Option RV} (h : bltF x = some f) :
    ∃ r, OpN w.K r f ∧ ((∃ id, CallR X (.builtin id) r ∧ bootBuiltins x = some (.builtin id)) ∨ ∃ id, CallR X (.type id) r ∧ bootBuiltins x = some (.type id)) := by
  rw [hK]
  unfold bltF at h
  rcases ite_some h with ⟨e, h⟩ | ⟨_, h⟩
  · rw [e]; cases h; exact ⟨_, ok_len, .inl ⟨_, call_len, boot_len⟩⟩
  rcases ite_some h with ⟨e, h⟩ | ⟨_, h⟩
  · rw [e]; cases h; exact ⟨_, ok_list, .inr ⟨_, call_list_of, boot_list⟩⟩
  rcases ite_some h with ⟨e, h⟩ | ⟨_, h⟩
  · rw [e]; cases h; exact ⟨_, ok_tuple, .inr ⟨_, call_tuple_of, boot_tuple⟩⟩
  rcases ite_some h with ⟨e, h⟩ | ⟨_, h⟩
  · rw [e]; cases h; exact ⟨_, ok_all, .inl ⟨_, cr_all hc, boot_all⟩⟩
  rcases ite_some h with ⟨e, h⟩ | ⟨_, h⟩
  · rw [e]; cases h; exact ⟨_, ok_any, .inl ⟨_, cr_any hc, boot_any⟩⟩
  rcases ite_some h with ⟨e, h⟩ | ⟨_, h⟩
  · rw [e]; cases h; exact ⟨_, ok_sum, .inl ⟨_, cr_sum hc, boot_sum⟩⟩
  rcases ite_some h with ⟨e, h⟩ | ⟨_, h⟩
  · rw [e]; cases h; exact ⟨_, ok_max, .inl ⟨_, (cr_max hc).or (call_max2 hc), boot_max⟩⟩
  rcases ite_some h with ⟨e, h⟩ | ⟨_, h⟩
  · rw [e]; cases h; exact ⟨_, ok_min, .inl ⟨_, (cr_min hc).or (call_min2 hc), boot_min⟩⟩
  rcases ite_some h with ⟨e, h⟩ | ⟨_, h⟩
  · rw [e]; cases h; exact ⟨_, ok_abs, .inl ⟨_, call_abs, boot_abs⟩⟩
  rcases ite_some h with ⟨e, h⟩ | ⟨_, h⟩
  · rw [e]; cases h; exact ⟨_, ok_int, .inr ⟨_, or_int, boot_int⟩⟩
  rcases ite_some h with ⟨e, h⟩ | ⟨_, h⟩
  · rw [e]; cases h; exact ⟨_, ok_str, .inr ⟨_, call_str_int, boot_str⟩⟩
  rcases ite_some h with ⟨e, h⟩ | ⟨_, h⟩
  · rw [e]; cases h; exact ⟨_, ok_ordC, .inl ⟨_, call_ord, boot_ord⟩⟩
  rcases ite_some h with ⟨e, h⟩ | ⟨_, h⟩
  · rw [e]; cases h; exact ⟨_, ok_sorted, .inl ⟨_, call_sortA hu, boot_sorted⟩⟩
  cases h
end Pu
set_option Elab.async false
set_option linter.all false
set_option maxRecDepth 100000
set_option maxHeartbeats 2000000
/-! Pu14: the pure layer: reading expressions off the text. -/
namespace Pu
open PySem L2 PyProof.Rows
structure Den where
  E : Gx → Expr → Option (M Hd)
  T : Gx → Expr → Option (M Hd)
  I : Gx → Expr → Expr → Option (M (List D))
structure DenOk (d : Den) : Prop where
  E : ∀ {w : Wi} {X : Cx} {G : Gx} {e : Expr} {m : M Hd}, CxP w X G → d.E G e = some m → PE X e (tK w m)
  T : ∀ {w : Wi} {X : Cx} {G : Gx} {e : Expr} {m : M Hd}, CxP w X G → d.T G e = some m → PT X e (tT w m)
  I : ∀ {w : Wi} {X : Cx} {G : Gx} {tg e : Expr} {m : M (List D)}, CxP w X G → d.I G tg e = some m → PI X tg e (tI w m)

/-! ### targets -/
def slotS (G : Gx) (x : Str) : Option Nat := match G.sc.names.lookup x with
  | some .local => let i := G.N.idxOf x; if G.N[i]? = some x then some i else none
  | some .cell => let i := G.N.idxOf x; if G.N[i]? = some x ∧ G.fn x = true then some i else none
  | _ => none
def denNs (G : Gx) : List Expr → Option (List Nat)
  | [] => some []
  | .Name x _ :: es => (match slotS G x, denNs G es with
    | some i, some is => some (i :: is)
    | _, _ => none)
  | _ :: _ => none
def denG (G : Gx) : Expr → Option Tg
  | .Name x _ => (slotS G x).map .n
  | .Tuple es _ _ => (denNs G es).map .t
  | _ => none
section
variable {w : Wi} {X : Cx} {G : Gx}
theorem slotS_some (c : CxP w X G) {x : Str} {i : Nat} (h : slotS G x = some i) : X.N[i]? = some x ∧ L2.Loc X.env.scope x ∧ (X.fn x = true ∨ X.env.scope.names.lookup x = some .local) := by
  unfold slotS at h
  rw [c.nn]
  unfold L2.Loc
  rw [c.sc]
  split at h
  · rename_i e
    dsimp only at h
    split at h
    · rename_i e2; cases h; exact ⟨e2, .inl e, .inr e⟩
    · cases h
  · rename_i e
    dsimp only at h
    split at h
    · rename_i e2; cases h; exact ⟨e2.1, .inr e, .inl (c.fn x e2.2)⟩
    · cases h
  · cases h
theorem denName_ok (c : CxP w X G) {x : Str} {p : Pos} {i : Nat} (h : slotS G x = some i) : PG X (.Name x p) (tG w (.n i)) :=
  have z := slotS_some c h
  sg_name c.nd z.1 z.2.1 z.2.2
theorem denNs_ok (c : CxP w X G) : ∀ {es : List Expr} {is : List Nat}, denNs G es = some is → PGs X es (tGs w is) ∧ (assignEach es X.env).length = is.length ∧ (assignEach es X.env).findIdx? (·.1) = none
  | [], is, h => by cases h; exact ⟨sgs_nil, rfl, rfl⟩
  | .Name x p :: es, is, h => by
    have h : (match slotS G x, denNs G es with
      | some i, some is => some (i :: is)
      | _, _ => none) = some is := h
    split at h
    · rename_i i is' e1 e2
      cases h
      obtain ⟨h1, h2, h3⟩ := denNs_ok c e2
      refine ⟨sgs_cons (denName_ok c e1) h1 rfl, ?_, ?_⟩
      · show (assignEach es X.env).length + 1 = is'.length + 1
        rw [h2]
      · show List.findIdx? _ ((false, assign (.Name x p) X.env) :: assignEach es X.env) = none
        rw [List.findIdx?_cons]
        simp only [Bool.false_eq_true, if_false, h3, Option.map_none]
    · cases h
  | .BoolOp .. :: _, _, h | .NamedExpr .. :: _, _, h | .BinOp .. :: _, _, h | .UnaryOp .. :: _, _, h | .Lambda .. :: _, _, h | .IfExp .. :: _, _, h | .Dict .. :: _, _, h | .Set .. :: _, _, h | .ListComp .. :: _, _, h | .SetComp .. :: _, _, h | .DictComp .. :: _, _, h | .GeneratorExp .. :: _, _, h
  | .Await .. :: _, _, h | .Yield .. :: _, _, h | .YieldFrom .. :: _, _, h | .Compare .. :: _, _, h | .Call .. :: _, _, h | .FormattedValue .. :: _, _, h | .JoinedStr .. :: _, _, h | .Constant .. :: _, _, h | .Attribute .. :: _, _, h | .Subscript .. :: _, _, h | .Starred .. :: _, _, h | .List .. :: _, _, h | .Tuple .. :: _, _, h | .Slice .. :: _, _, h => by cases h
theorem denG_ok (c : CxP w X G) {e : Expr} {t : Tg} (h : denG G e = some t) : PG X e (tG w t) := by
  cases e with
  | Name x p =>
    obtain ⟨i, g, rfl⟩ := Option.map_eq_some_iff.mp (show (slotS G x).map .n = some t from h)
    exact denName_ok c g
  | Tuple es k p =>
    obtain ⟨is, g, rfl⟩ := Option.map_eq_some_iff.mp (show (denNs G es).map .t = some t from h)
    obtain ⟨h1, h2, h3⟩ := denNs_ok c g
    exact sg_tup c.kd c.calm h1 h2 h3
  | _ => cases h
end

/-! ### expressions -/
def escF (f : Expr → Option (M Hd)) (e : Expr) : Option (M Hd) := (f e).map mEsc
def constE : Const → Option (M Hd)
  | .int i => some (mC (.int i))
  | .bool b => some (mC (.bool b))
  | .str x => some (mC (.str x))
  | .none => some (mC .none)
  | _ => none
def nameE (G : Gx) (x : Str) : Option (M Hd) := if okName x = true then (match slotE G x with
  | some i => some (mSlot i)
  | none => (match glob G x with
    | some (.con d) => some (mC d)
    | _ => none)) else none
def binE (d : Den) (G : Gx) (a : Expr) (op : Operator) (b : Expr) : Option (M Hd) := match binF op, d.E G a, d.E G b with
  | some f, some ma, some mb => some (mBin f ma mb)
  | _, _, _ => none
def unE (d : Den) (G : Gx) (op : UnaryOp) (a : Expr) : Option (M Hd) := match op with
  | .USub => (d.E G a).map (mUn fNeg)
  | .Not => (d.E G a).map mNot
  | _ => none
def boolE (f : Expr → Option (M Hd)) (op : BoolOp) (vs : List Expr) (pos : Pos) : Option (M Hd) := match vs with
  | [] => none
  | [a] => f a
  | a :: b :: r => (match f a, f (.BoolOp op (b :: r) pos) with
    | some ma, some mb => some (match op with
      | .And => mAnd ma mb
      | .Or => mOr ma mb)
    | _, _ => none)
def cmpE (d : Den) (G : Gx) (a : Expr) (ops : List CmpOp) (bs : List Expr) : Option (M Hd) := match ops, bs with
  | [op], [b] => if behindInMarks op b = true then none else (match d.E G a, d.E G b with
    | some ma, some mb => some (mBin (cmpF op) ma mb)
    | _, _ => none)
  | [op, op'], [b, c] => if lastMarks [op, op'] [b, c] = true then none else (match d.E G a, d.E G b, d.E G c with
    | some ma, some mb, some mc => some (mChain (cmpF op) (cmpF op') ma mb mc)
    | _, _, _ => none)
  | _, _ => none
def ifE (d : Den) (G : Gx) (c a b : Expr) : Option (M Hd) := match d.T G c, d.E G a, d.E G b with
  | some mc, some ma, some mb => some (mIf mc ma mb)
  | _, _, _ => none
def denO (f : Expr → Option (M Hd)) : Option Expr → Option (M (Option Int))
  | none => some (optM none)
  | some e => (f e).map fun m => optM (some m)
def isM1 : Expr → Bool
  | .UnaryOp .USub (.Constant (.int i) _ _) _ => i == 1
  | _ => false
def subE (d : Den) (G : Gx) (a i : Expr) : Option (M Hd) := match i with
  | .Slice lo hi none _ => (match d.E G a, denO (d.E G) lo, denO (d.E G) hi with
    | some m, some ml, some mh => some (mCut m ml mh)
    | _, _, _ => none)
  | .Slice none none (some e) _ => if isM1 e = true then (d.E G a).map (mUn fRev) else none
  | .Slice _ _ _ _ => none
  | i => (match d.E G a, d.E G i with
    | some ma, some mi => some (mBin fItem ma mi)
    | _, _ => none)
def isSet : Expr → Bool
  | .Set _ _ _ => true
  | _ => false
def denIfs (d : Den) (G : Gx) : List Expr → Option (M Hd)
  | [] => some (mC (.bool true))
  | [c] => d.T G c
  | _ => none
def ownE (G : Gx) (scope : Scope) : List (Str × Nat) := scope.names.filterMap fun y => match y.2 with
  | .local => let i := G.N.idxOf y.1; if G.N[i]? = some y.1 then some (y.1, i) else none
  | .cell => let i := G.N.idxOf y.1; if G.N[i]? = some y.1 then some (y.1, i) else none
  | _ => none
def compE (d : Den) (G : Gx) (elt : Expr) (gens : List Comprehension) (scope : Scope) : Option (M Hd) := match gens with
  | [⟨tg, iter, ifs, a⟩] => if a = 0 ∧ isSet iter = false ∧ blkC G.N G.sc scope (ownE G scope) = true then (match d.I G tg iter, denG (G.blk scope) tg, denIfs d (G.blk scope) ifs, d.E (G.blk scope) elt with
    | some mi, some t, some mc, some me => if (t.slots.all fun i => ((ownE G scope).map (·.2)).contains i) = true then some (mComp ((ownE G scope).map (·.2)) mi t mc me) else none
    | _, _, _, _ => none) else none
  | _ => none
/-- an argument: raw where the callee may change the list -/
def argF (d : Den) (G : Gx) (raw : Bool) (e : Expr) : Option (M Hd) := if raw = true then d.E G e else (d.E G e).map mEsc
def denAs (d : Den) (G : Gx) (io : Option Nat) : Nat → List Expr → Option (List (M Hd))
  | _, [] => some []
  | j, e :: es => if isStar e = true then none else match argF d G (io == some j) e, denAs d G io (j + 1) es with
    | some m, some ms => some (m :: ms)
    | _, _ => none
def isaE (d : Den) (G : Gx) (args : List Expr) : Option (M Hd) := match args with
  | [a, .Name T _] => if isStar a = true then none else (match glob G T, d.E G a with
    | some .blt, some m => if T = "int" then some (mUn (fIsa "int") m) else if T = "bool" then some (mUn (fIsa "bool") m) else if T = "str" then some (mUn (fIsa "str") m)
      else if T = "tuple" then some (mUn (fIsa "tuple") m) else if T = "list" then some (mUn (fIsa "list") m) else if T = "dict" then some (mUn (fIsa "dict") m) else none
    | _, _ => none)
  | _ => none
def rangeOf (G : Gx) (args : List Expr) : Option (List Expr) := match args with
  | [.Call (.Name r _) as [] _] => (match glob G r with
    | some .blt => if r = "range" then some as else none
    | _ => none)
  | _ => none
def rngE (d : Den) (G : Gx) (isL : Bool) (as : List Expr) : Option (M Hd) := match as with
  | [a] => if isStar a = true then none else (d.E G a).map (mUn (if isL then fRL1 else fRT1))
  | [a, b] => if isStar a = true then none else if isStar b = true then none else (match d.E G a, d.E G b with
    | some ma, some mb => some (mBin (if isL then fRL2 else fRT2) ma mb)
    | _, _ => none)
  | _ => none
def primE (d : Den) (G : Gx) (x : Str) (args : List Expr) : Option (M Hd) := match args with
  | [] => none
  | e :: es => (match bltF x, denL (d.E G) (e :: es) with
    | some f, some ms => some (mPrim f ms)
    | _, _ => none)
def bltE (d : Den) (G : Gx) (x : Str) (args : List Expr) : Option (M Hd) :=
  if x = "isinstance" then isaE d G args
  else match rangeOf G args with
    | some as => if x = "list" then rngE d G true as else if x = "tuple" then rngE d G false as else none
    | none => primE d G x args
def fnE (d : Den) (G : Gx) (n : Nat) (io : Option Nat) (pf : PF) (args : List Expr) : Option (M Hd) := match args with
  | [] => if n = 0 then some (mCall 0 pf []) else none
  | e :: es => (denAs d G io 0 (e :: es)).map (mCall n pf)
def callE (d : Den) (G : Gx) (f : Expr) (args : List Expr) (kws : List Keyword) : Option (M Hd) := match f, kws with
  | .Name x _, [] => (match glob G x with
    | some (.fn n io pf) => fnE d G n io pf args
    | some .blt => bltE d G x args
    | _ => none)
  | _, _ => none
def stepE (d : Den) (G : Gx) : Expr → Option (M Hd)
  | .Constant c _ _ => constE c
  | .Name x _ => nameE G x
  | .BinOp a op b _ => binE d G a op b
  | .UnaryOp op a _ => unE d G op a
  | .BoolOp op vs pos => boolE (d.E G) op vs pos
  | .Compare a ops bs _ => cmpE d G a ops bs
  | .IfExp c a b _ => ifE d G c a b
  | .Subscript a i _ => subE d G a i
  | .Tuple es _ _ => (denL (escF (d.E G)) es).map mTup
  | .List es _ => (denL (escF (d.E G)) es).map mLst
  | .ListComp elt gens scope _ => compE d G elt gens scope
  | .Call f args kws _ => callE d G f args kws
  | _ => none
def stepT (d : Den) (G : Gx) : Expr → Option (M Hd)
  | .UnaryOp .Not a _ => (d.T G a).map mNot
  | .UnaryOp _ _ _ => none
  | .BoolOp op vs pos => boolE (d.T G) op vs pos
  | .Compare a ops bs _ => cmpE d G a ops bs
  | .IfExp _ _ _ _ => none
  | e => stepE d G e
def iterE (d : Den) (G : Gx) (tg : Expr) (x : Str) (args : List Expr) : Option (M (List D)) :=
  if x = "range" then (match args with
    | [a] => (denL (escF (d.E G)) [a]).map (mWalk fRange1)
    | [a, b] => (denL (escF (d.E G)) [a, b]).map (mWalk fRange2)
    | _ => none)
  else if x = "zip" then (match tg, args with
    | .Tuple _ _ _, [a, b] => (denL (escF (d.E G)) [a, b]).map (mWalk fZip)
    | _, _ => none)
  else if x = "enumerate" then (match tg, args with
    | .Tuple _ _ _, [a] => (denL (escF (d.E G)) [a]).map (mWalk fEnum)
    | _, _ => none)
  else none
def iterBlt (G : Gx) : Expr → Option (Str × List Expr)
  | .Call (.Name x _) args [] _ => (match glob G x with
    | some .blt => if x = "range" ∨ x = "zip" ∨ x = "enumerate" then some (x, args) else none
    | _ => none)
  | _ => none
def stepI (d : Den) (G : Gx) (tg e : Expr) : Option (M (List D)) := match iterBlt G e with
  | some (x, args) => iterE d G tg x args
  | none => (d.E G e).map mSeq
def Den.step (d : Den) : Den := ⟨stepE d, stepT d, stepI d⟩
def den : Nat → Den
  | 0 => ⟨fun _ _ => none, fun _ _ => none, fun _ _ _ => none⟩
  | n + 1 => (den n).step
end Pu
set_option Elab.async false
set_option linter.all false
set_option maxRecDepth 100000
set_option maxHeartbeats 2000000
/-! Pu15: the pure layer: what is read off the text is what it does (expressions). -/
namespace Pu
open PySem L2 PyProof.Rows
section
variable {w : Wi} {X : Cx} {G : Gx} {d : Den} {m : M Hd}
theorem constE_ok {c : Const} {k : Nat} {p : Pos} (h : constE c = some m) : PE X (.Constant c k p) (tK w m) := by
  cases c <;> first | (cases h; done) | skip
  all_goals simp only [constE] at h
  · cases h; exact se_non
  · cases h; exact se_bl
  · cases h; exact se_int
  · cases h; exact se_str
theorem nameE_ok (c : CxP w X G) {x : Str} {p : Pos} (h : nameE G x = some m) : PE X (.Name x p) (tK w m) := by
  unfold nameE at h
  split at h
  · rename_i ho
    obtain ⟨h1, h2, h3⟩ := okName_of ho
    split at h
    · rename_i i e
      cases h
      obtain ⟨g1, g2⟩ := slotE_some c e
      exact se_var g1 g2 h1 h2
    · split at h
      · rename_i d' e
        cases h
        obtain ⟨g1, ⟨u, v, g2, g3, g4⟩, _⟩ := glob_some c e
        exact se_glob g1 g2 g3 h1 g4
      · cases h
  · cases h
theorem binE_ok (D : DenOk d) (c : CxP w X G) {a b : Expr} {op : Operator} {p : Pos} (h : binE d G a op b = some m) : PE X (.BinOp a op b p) (tK w m) := by
  unfold binE at h
  split at h
  · rename_i f ma mb e1 e2 e3
    cases h
    obtain ⟨r, h1, h2⟩ := binF_ok c.kd e1
    exact se_bin h1 h2 (D.E c e2) (D.E c e3)
  · cases h
theorem unE_ok (D : DenOk d) (c : CxP w X G) {a : Expr} {op : UnaryOp} {p : Pos} (h : unE d G op a = some m) : PE X (.UnaryOp op a p) (tK w m) := by
  cases op with
  | USub =>
    obtain ⟨ma, e, rfl⟩ := Option.map_eq_some_iff.mp (show (d.E G a).map (mUn fNeg) = some m from h)
    exact se_neg (D.E c e)
  | Not =>
    obtain ⟨ma, e, rfl⟩ := Option.map_eq_some_iff.mp (show (d.E G a).map mNot = some m from h)
    exact se_not (D.E c e)
  | _ => cases h
theorem boolE_ok (D : DenOk d) (c : CxP w X G) {op : BoolOp} {vs : List Expr} {p : Pos} (h : boolE (d.E G) op vs p = some m) : PE X (.BoolOp op vs p) (tK w m) := by
  unfold boolE at h
  split at h
  · cases h
  · exact pe_one (D.E c h)
  · split at h
    · rename_i ma mb e1 e2
      cases op with
      | And => cases h; exact se_and (D.E c e1) (D.E c e2)
      | Or => cases h; exact se_or (D.E c e1) (D.E c e2)
    · cases h
theorem pw_of {op : BoolOp} {vs : List Expr} {p : Pos} {t : TT} (h : PT X (.BoolOp op vs p) t) : PW X (.BoolOp op vs p) t := ⟨fun wh pins s σ H Q I q => h.run pins s σ H Q I q⟩
theorem boolT_ok (D : DenOk d) (c : CxP w X G) {op : BoolOp} {vs : List Expr} {p : Pos} (h : boolE (d.T G) op vs p = some m) : PT X (.BoolOp op vs p) (tT w m) := by
  unfold boolE at h
  split at h
  · cases h
  · cases op with
    | And => exact (pw_and1 (D.T c h)).pt
    | Or => exact (pw_or1 (D.T c h)).pt
  · split at h
    · rename_i ma mb e1 e2
      cases op with
      | And => cases h; exact (sw_and (D.T c e1) (pw_of (D.T c e2))).pt
      | Or => cases h; exact (sw_or (D.T c e1) (pw_of (D.T c e2))).pt
    · cases h
theorem cmpE_ok (D : DenOk d) (c : CxP w X G) {a : Expr} {ops : List CmpOp} {bs : List Expr} {p : Pos} (h : cmpE d G a ops bs = some m) : PE X (.Compare a ops bs p) (tK w m) ∧ PT X (.Compare a ops bs p) (tT w m) := by
  unfold cmpE at h
  split at h
  · split at h
    · cases h
    · rename_i hm
      split at h
      · rename_i ma mb e1 e2
        cases h
        obtain ⟨r, h1, h2⟩ := cmpF_ok (w := w) c.kd c.un _
        exact ⟨se_cmp h1 h2 (D.E c e1) (D.E c e2) (by simpa using hm), st_cmp h1 h2 (D.E c e1) (D.E c e2) (by simpa using hm)⟩
      · cases h
  · split at h
    · cases h
    · rename_i hm
      split at h
      · rename_i ma mb mc e1 e2 e3
        cases h
        obtain ⟨r, h1, h2⟩ := cmpF_ok (w := w) c.kd c.un _
        obtain ⟨r', h3, h4⟩ := cmpF_ok (w := w) c.kd c.un _
        exact ⟨se_chain h1 h2 h3 h4 (D.E c e1) (D.E c e2) (D.E c e3) (by simpa using hm), st_chain h1 h2 h3 h4 (D.E c e1) (D.E c e2) (D.E c e3) (by simpa using hm)⟩
      · cases h
  · cases h
theorem ifE_ok (D : DenOk d) (c : CxP w X G) {t a b : Expr} {p : Pos} (h : ifE d G t a b = some m) : PE X (.IfExp t a b p) (tK w m) := by
  unfold ifE at h
  split at h
  · rename_i mc ma mb e1 e2 e3
    cases h
    exact se_if (D.T c e1) (D.E c e2) (D.E c e3)
  · cases h
theorem denO_ok (D : DenOk d) (c : CxP w X G) {o : Option Expr} {mo : M (Option Int)} (h : denO (d.E G) o = some mo) : PO X o (tO w mo) := by
  cases o with
  | none => cases h; exact so_none
  | some e =>
    obtain ⟨ma, e1, rfl⟩ := Option.map_eq_some_iff.mp (show (d.E G e).map (fun m => optM (some m)) = some mo from h)
    exact so_some (D.E c e1)
theorem isM1_of {e : Expr} (h : isM1 e = true) : ∃ k p1 p2, e = .UnaryOp .USub (.Constant (.int 1) k p1) p2 := by
  unfold isM1 at h
  split at h
  · rename_i i k p1 p2
    have : i = 1 := by simpa using h
    subst this
    exact ⟨_, _, _, rfl⟩
  · cases h
theorem subE_ok (D : DenOk d) (c : CxP w X G) {a i : Expr} {p : Pos} (h : subE d G a i = some m) : PE X (.Subscript a i p) (tK w m) := by
  unfold subE at h
  split at h
  · split at h
    · rename_i ma ml mh e1 e2 e3
      cases h
      exact se_cut c.kd (D.E c e1) (denO_ok D c e2) (denO_ok D c e3)
    · cases h
  · split at h
    · rename_i hm
      obtain ⟨k, p1, p2, rfl⟩ := isM1_of hm
      obtain ⟨ma, e, rfl⟩ := Option.map_eq_some_iff.mp h
      exact se_back c.kd (D.E c e)
    · cases h
  · cases h
  · rename_i n1 n2 n3
    split at h
    · rename_i ma mi e1 e2
      cases h
      refine se_item c.kd (D.E c e1) (D.E c e2) fun o u => ?_
      cases i <;> first | rfl | exact absurd rfl (n3 _ _ _ _)
    · cases h
end
end Pu
set_option Elab.async false
set_option linter.all false
set_option maxRecDepth 100000
set_option maxHeartbeats 2000000
/-! Pu16: the pure layer: what is read off the text is what it does (comprehensions, calls, iterables). -/
namespace Pu
open PySem L2 PyProof.Rows
section
variable {w : Wi} {X : Cx} {G : Gx} {d : Den} {m : M Hd}
theorem escF_ok (D : DenOk d) (c : CxP w X G) {e : Expr} (h : escF (d.E G) e = some m) : PE X e (tK w m) := by
  obtain ⟨ma, e1, rfl⟩ := Option.map_eq_some_iff.mp h
  exact se_esc (D.E c e1)
theorem notSet {iter : Expr} (h : isSet iter = false) (env : Env) (x : Value) : foldedSetIterable iter env x = pure x := by
  cases iter <;> first | rfl | cases h
theorem ifs_ok (D : DenOk d) (c : CxP w X G) {ifs : List Expr} (h : denIfs d G ifs = some m) : PTs X ifs (tT w m) := by
  unfold denIfs at h
  split at h
  · cases h; exact sts_nil
  · exact sts_one (D.T c h)
  · cases h
theorem comp_facts (D : DenOk d) (c : CxP w X G) {elt : Expr} {gens : List Comprehension} {scope : Scope} (h : compE d G elt gens scope = some m) :
    ∃ tg iter ifs mi t mc me, gens = [⟨tg, iter, ifs, 0⟩] ∧ m = mComp ((ownE G scope).map (·.2)) mi t mc me ∧ PI X tg iter (tI w mi) ∧ BlkOk X.N X.env.scope scope (ownE G scope) ∧ (∀ i ∈ t.slots, i ∈ (ownE G scope).map (·.2)) ∧
    (∀ (s : Shared) (H : Hp) (C : Addr) (cl : List (Str × Addr)) (fp : List Addr), PG (X.blk s H scope (compEnvC scope cl C X.env) fp) tg (tG w.blk t)) ∧
    (∀ (s : Shared) (H : Hp) (C : Addr) (cl : List (Str × Addr)) (fp : List Addr), PTs (X.blk s H scope (compEnvC scope cl C X.env) fp) ifs (tT w.blk mc)) ∧
    (∀ (s : Shared) (H : Hp) (C : Addr) (cl : List (Str × Addr)) (fp : List Addr), PE (X.blk s H scope (compEnvC scope cl C X.env) fp) elt (tK w.blk me)) ∧ (∀ x, foldedSetIterable iter X.env x = pure x) := by
  unfold compE at h
  split at h
  · rename_i tg iter ifs a
    split at h
    · rename_i h0
      obtain ⟨h1, h2, h3⟩ := h0
      split at h
      · rename_i mi t mc me e1 e2 e3 e4
        split at h
        · rename_i ha
          cases h
          subst h1
          refine ⟨tg, iter, ifs, mi, t, mc, me, rfl, rfl, D.I c e1, ?_, fun i hi => ?_, fun s H C cl fp => denG_ok (c.blk scope s H C cl fp) e2, fun s H C cl fp => ifs_ok D (c.blk scope s H C cl fp) e3, fun s H C cl fp => D.E (c.blk scope s H C cl fp) e4, notSet h2 _⟩
          · rw [c.nn, c.sc]
            exact blkOk_by h3
          · have z := List.all_eq_true.mp ha i hi
            simpa using z
        · cases h
      · cases h
    · cases h
  · cases h
theorem compE_ok (D : DenOk d) (c : CxP w X G) {elt : Expr} {gens : List Comprehension} {scope : Scope} {p : Pos} (h : compE d G elt gens scope = some m) : PE X (.ListComp elt gens scope p) (tK w m) := by
  obtain ⟨tg, iter, ifs, mi, t, mc, me, rfl, rfl, h1, h2, h3, h4, h5, h6, h7⟩ := comp_facts D c h
  exact se_lc c.calm c.nd h1 h2 h3 h4 h5 h6 h7
theorem argF_ok (D : DenOk d) (c : CxP w X G) {raw : Bool} {e : Expr} (h : argF d G raw e = some m) : PE X e (tK w m) := by
  unfold argF at h
  split at h
  · exact D.E c h
  · obtain ⟨ma, e1, rfl⟩ := Option.map_eq_some_iff.mp h
    exact se_esc (D.E c e1)
theorem denAs_cons {io : Option Nat} {j : Nat} {e : Expr} {es : List Expr} {ms : List (M Hd)} (h : denAs d G io j (e :: es) = some ms) : ∃ m ms', ms = m :: ms' ∧ isStar e = false ∧ argF d G (io == some j) e = some m ∧ denAs d G io (j + 1) es = some ms' := by
  unfold denAs at h
  split at h
  · cases h
  · rename_i hs
    split at h
    · rename_i m ms' e1 e2
      cases h
      exact ⟨m, ms', rfl, by simpa using hs, e1, e2⟩
    · cases h
theorem denAs_any {io : Option Nat} {pos : Pos} {env : Env} : ∀ {es : List Expr} {j : Nat} {ms : List (M Hd)}, denAs d G io j es = some ms → (backTo pos (starEach es env)).any (·.1) = false
  | [], _, _, _ => rfl
  | e :: es, j, ms, h => by
    obtain ⟨m, ms', _, hs, _, h2⟩ := denAs_cons h
    rw [star_cons hs]
    have ih := denAs_any (pos := pos) (env := env) h2
    unfold backTo at ih ⊢
    rw [List.map_cons, List.any_cons, ih]
    rfl
theorem denAs_pa (D : DenOk d) (c : CxP w X G) {io : Option Nat} : ∀ {es : List Expr} {j : Nat} {ms : List (M Hd)}, denAs d G io j es = some ms → PA X es (tA w (mArgs ms))
  | [], _, ms, h => by cases h; exact sa_nil
  | e :: es, j, ms, h => by
    obtain ⟨m, ms', rfl, hs, h1, h2⟩ := denAs_cons h
    exact sa_cons (argF_ok D c h1) (denAs_pa D c h2) (star_cons hs)
theorem isaE_ok (D : DenOk d) (c : CxP w X G) {args : List Expr} {p pos : Pos} (g : Gl X "isinstance" ∧ X.mg "isinstance" = none) (h : isaE d G args = some m) : PE X (.Call (.Name "isinstance" p) args [] pos) (tK w m) := by
  unfold isaE at h
  split at h
  · split at h
    · cases h
    · rename_i a T p2 hs
      have hs : isStar a = false := by simpa using hs
      split at h
      · rename_i m' e1 e2
        obtain ⟨g1, g2, g3⟩ := glob_some c e1
        obtain ⟨k1, k2, k3⟩ := okName_of g3
        have hA := D.E c e2
        have fin : ∀ (t : String), bootBuiltins T = some (.type t) → PE X (.Call (.Name "isinstance" p) [a, .Name T p2] [] pos) (tK w (mUn (fIsa t) m')) := fun t hv => se_isa c.kd g.1 g.2 g1 g2 hv k3 k1 hA (star_cons hs)
        rcases ite_some h with ⟨e, h⟩ | ⟨_, h⟩
        · cases h; exact fin _ (by rw [e]; exact boot_int)
        rcases ite_some h with ⟨e, h⟩ | ⟨_, h⟩
        · cases h; exact fin _ (by rw [e]; exact boot_bool)
        rcases ite_some h with ⟨e, h⟩ | ⟨_, h⟩
        · cases h; exact fin _ (by rw [e]; exact boot_str)
        rcases ite_some h with ⟨e, h⟩ | ⟨_, h⟩
        · cases h; exact fin _ (by rw [e]; exact boot_tuple)
        rcases ite_some h with ⟨e, h⟩ | ⟨_, h⟩
        · cases h; exact fin _ (by rw [e]; exact boot_list)
        rcases ite_some h with ⟨e, h⟩ | ⟨_, h⟩
        · cases h; exact fin _ (by rw [e]; exact boot_dict)
        cases h
      · cases h
  · cases h
theorem rangeOf_some (c : CxP w X G) {args as : List Expr} (h : rangeOf G args = some as) : ∃ p2 pos2, args = [.Call (.Name "range" p2) as [] pos2] ∧ Gl X "range" ∧ X.mg "range" = none := by
  unfold rangeOf at h
  split at h
  · split at h
    · rename_i e
      rcases ite_some h with ⟨e2, h⟩ | ⟨_, h⟩
      · cases h
        subst e2
        obtain ⟨g1, g2, _⟩ := glob_some c e
        exact ⟨_, _, rfl, g1, g2⟩
      · cases h
    · cases h
  · cases h
theorem rngE_ok (D : DenOk d) (c : CxP w X G) {isL : Bool} {as : List Expr} {p p2 pos pos2 : Pos} {x : Str} (hx : x = if isL = true then ("list" : Str) else ("tuple" : Str)) (g : Gl X x ∧ X.mg x = none) (g2 : Gl X "range" ∧ X.mg "range" = none) (h : rngE d G isL as = some m) :
    PE X (.Call (.Name x p) [.Call (.Name "range" p2) as [] pos2] [] pos) (tK w m) := by
  unfold rngE at h
  split at h
  · rename_i a
    split at h
    · cases h
    · rename_i hs
      have hs : isStar a = false := by simpa using hs
      obtain ⟨ma, e1, rfl⟩ := Option.map_eq_some_iff.mp h
      cases isL with
      | true => subst hx; exact se_rl1 c.calm g.1 g.2 g2.1 g2.2 (D.E c e1) (star_cons hs)
      | false => subst hx; exact se_rt1 c.kd c.calm g.1 g.2 g2.1 g2.2 (D.E c e1) (star_cons hs)
  · rename_i a b
    split at h
    · cases h
    · split at h
      · cases h
      · rename_i hs hs2
        have hs : isStar a = false := by simpa using hs
        have hs2 : isStar b = false := by simpa using hs2
        split at h
        · rename_i ma mb e1 e2
          cases h
          have h3 : (backTo pos2 (starEach [b] X.env)).any (·.1) = false := by rw [star_cons hs2]; rfl
          cases isL with
          | true => subst hx; exact se_rl2 c.calm g.1 g.2 g2.1 g2.2 (D.E c e1) (D.E c e2) (star_cons hs) (star_cons hs2) h3
          | false => subst hx; exact se_rt2 c.calm g.1 g.2 g2.1 g2.2 (D.E c e1) (D.E c e2) (star_cons hs) (star_cons hs2) h3
        · cases h
  · cases h
theorem primE_ok (D : DenOk d) (c : CxP w X G) {x : Str} {args : List Expr} {p pos : Pos} (g : Gl X x ∧ X.mg x = none) (ho : okName x = true) (h : primE d G x args = some m) : PE X (.Call (.Name x p) args [] pos) (tK w m) := by
  unfold primE at h
  split at h
  · cases h
  · split at h
    · rename_i e es f ms e1 e2
      cases h
      obtain ⟨k1, k2, k3⟩ := okName_of ho
      obtain ⟨m', ms', _, hs, _, h2⟩ := denL_cons e2
      obtain ⟨r, h1, hh⟩ := bltF_ok c.kd c.calm c.un e1
      have hA := denL_pa (fun e m => D.E c (e := e) (m := m)) e2
      rcases hh with ⟨id, hc, hb⟩ | ⟨id, hc, hb⟩
      · exact se_callB hc h1 g.1 g.2 hb hA k3 k1 (star_cons hs) (denL_any h2)
      · exact se_callTy hc h1 g.1 g.2 hb hA k3 k1 (star_cons hs) (denL_any h2)
    · cases h
theorem bltE_ok (D : DenOk d) (c : CxP w X G) {x : Str} {args : List Expr} {p pos : Pos} (g : Gl X x ∧ X.mg x = none) (ho : okName x = true) (h : bltE d G x args = some m) : PE X (.Call (.Name x p) args [] pos) (tK w m) := by
  rcases ite_some h with ⟨e, k⟩ | ⟨_, k⟩
  · subst e; exact isaE_ok D c g k
  · cases e : rangeOf G args with
    | some as =>
      rw [e] at k
      obtain ⟨p2, pos2, e3, g2, g3⟩ := rangeOf_some c e
      rw [e3]
      rcases ite_some k with ⟨e2, k2⟩ | ⟨_, k2⟩
      · exact rngE_ok D c (isL := true) e2 g ⟨g2, g3⟩ k2
      rcases ite_some k2 with ⟨e2, k3⟩ | ⟨_, k3⟩
      · exact rngE_ok D c (isL := false) e2 g ⟨g2, g3⟩ k3
      cases k3
    | none =>
      rw [e] at k
      exact primE_ok D c g ho k
theorem fnE_ok (D : DenOk d) (c : CxP w X G) {n : Nat} {io : Option Nat} {pf : PF} {x : Str} {args : List Expr} {p pos : Pos} (hg : Gl X x) (g : GvOk w X x (.fn n io pf)) (ho : okName x = true) (h : fnE d G n io pf args = some m) : PE X (.Call (.Name x p) args [] pos) (tK w m) := by
  obtain ⟨k1, k2, k3⟩ := okName_of ho
  obtain ⟨k, f, fd, ps, hl, hF, hr, hm, hk, hb⟩ := g
  unfold fnE at h
  split at h
  · rcases ite_some h with ⟨e, h⟩ | ⟨_, h⟩
    · cases h
      subst e
      cases ps with
      | nil => exact se_call0 c.kd hF hr hg hm hk hb c.tk k1
      | cons _ _ => cases hl
    · cases h
  · rename_i e es
    obtain ⟨ms, e1, rfl⟩ := Option.map_eq_some_iff.mp h
    obtain ⟨m', ms', _, hs, _, h2⟩ := denAs_cons e1
    subst hl
    exact se_call c.kd hF hr hg hm hk hb c.tk (denAs_pa D c e1) k1 (star_cons hs) (denAs_any h2)
theorem callE_ok (D : DenOk d) (c : CxP w X G) {f : Expr} {args : List Expr} {kws : List Keyword} {pos : Pos} (h : callE d G f args kws = some m) : PE X (.Call f args kws pos) (tK w m) := by
  unfold callE at h
  split at h
  · split at h
    · rename_i e
      obtain ⟨g1, g2, g3⟩ := glob_some c e
      exact fnE_ok D c g1 g2 g3 h
    · rename_i e
      obtain ⟨g1, g2, g3⟩ := glob_some c e
      exact bltE_ok D c ⟨g1, g2⟩ g3 h
    · cases h
  · cases h
theorem stepE_ok (D : DenOk d) (c : CxP w X G) {e : Expr} (h : stepE d G e = some m) : PE X e (tK w m) := by
  cases e with
  | Constant => exact constE_ok h
  | Name => exact nameE_ok c h
  | BinOp => exact binE_ok D c h
  | UnaryOp => exact unE_ok D c h
  | BoolOp => exact boolE_ok D c h
  | Compare => exact (cmpE_ok D c h).1
  | IfExp => exact ifE_ok D c h
  | Subscript => exact subE_ok D c h
  | Tuple es k p =>
    obtain ⟨ms, e1, rfl⟩ := Option.map_eq_some_iff.mp (show (denL (escF (d.E G)) es).map mTup = some m from h)
    exact se_tup (denL_pa (fun e m => escF_ok D c) e1)
  | List es p =>
    obtain ⟨ms, e1, rfl⟩ := Option.map_eq_some_iff.mp (show (denL (escF (d.E G)) es).map mLst = some m from h)
    exact se_lst (denL_pa (fun e m => escF_ok D c) e1)
  | ListComp => exact compE_ok D c h
  | Call => exact callE_ok D c h
  | _ => cases h
theorem stepT_ok (D : DenOk d) (c : CxP w X G) {e : Expr} (h : stepT d G e = some m) : PT X e (tT w m) := by
  cases e with
  | UnaryOp op a p =>
    cases op with
    | Not =>
      obtain ⟨ma, e1, rfl⟩ := Option.map_eq_some_iff.mp (show (d.T G a).map mNot = some m from h)
      exact st_not (D.T c e1)
    | _ => cases h
  | BoolOp => exact boolT_ok D c h
  | Compare => exact (cmpE_ok D c h).2
  | IfExp => cases h
  | Constant => exact st_val (stepE_ok D c h) fun _ => rfl
  | Name => exact st_val (stepE_ok D c h) fun _ => rfl
  | BinOp => exact st_val (stepE_ok D c h) fun _ => rfl
  | Subscript => exact st_val (stepE_ok D c h) fun _ => rfl
  | Tuple => exact st_val (stepE_ok D c h) fun _ => rfl
  | List => exact st_val (stepE_ok D c h) fun _ => rfl
  | ListComp => exact st_val (stepE_ok D c h) fun _ => rfl
  | Call => exact st_val (stepE_ok D c h) fun _ => rfl
  | _ => cases h
theorem iterR_ok (D : DenOk d) (c : CxP w X G) {tg : Expr} {args : List Expr} {p pos : Pos} {mi : M (List PyData)} (g : Gl X "range" ∧ X.mg "range" = none) (h : (match args with
    | [a] => (denL (escF (d.E G)) [a]).map (mWalk fRange1)
    | [a, b] => (denL (escF (d.E G)) [a, b]).map (mWalk fRange2)
    | _ => none) = some mi) : PI X tg (.Call (.Name "range" p) args [] pos) (tI w mi) := by
  have pa : ∀ {es : List Expr} {ms : List (M Hd)}, denL (escF (d.E G)) es = some ms → PA X es (tA w (mArgs ms)) := fun e2 => denL_pa (fun e m => escF_ok D c) e2
  split at h
  · obtain ⟨ms, e1, rfl⟩ := Option.map_eq_some_iff.mp h
    obtain ⟨_, _, _, hs, _, _⟩ := denL_cons e1
    exact si_range1 g.1 g.2 (pa e1) (star_cons hs)
  · obtain ⟨ms, e1, rfl⟩ := Option.map_eq_some_iff.mp h
    obtain ⟨_, _, _, hs, _, h2⟩ := denL_cons e1
    obtain ⟨_, _, _, hs2, _, _⟩ := denL_cons h2
    exact si_range2 g.1 g.2 (pa e1) (by rw [star_cons hs, star_cons hs2]; rfl) (star_cons hs2)
  · cases h
theorem iterZ_ok (D : DenOk d) (c : CxP w X G) {tg : Expr} {args : List Expr} {p pos : Pos} {mi : M (List PyData)} (g : Gl X "zip" ∧ X.mg "zip" = none) (h : (match tg, args with
    | .Tuple _ _ _, [a, b] => (denL (escF (d.E G)) [a, b]).map (mWalk fZip)
    | _, _ => none) = some mi) : PI X tg (.Call (.Name "zip" p) args [] pos) (tI w mi) := by
  have pa : ∀ {es : List Expr} {ms : List (M Hd)}, denL (escF (d.E G)) es = some ms → PA X es (tA w (mArgs ms)) := fun e2 => denL_pa (fun e m => escF_ok D c) e2
  split at h
  · obtain ⟨ms, e1, rfl⟩ := Option.map_eq_some_iff.mp h
    obtain ⟨_, _, _, hs, _, h2⟩ := denL_cons e1
    exact si_zip c.kd g.1 g.2 (pa e1) (star_cons hs) (denL_any h2)
  · cases h
theorem iterN_ok (D : DenOk d) (c : CxP w X G) {tg : Expr} {args : List Expr} {p pos : Pos} {mi : M (List PyData)} (g : Gl X "enumerate" ∧ X.mg "enumerate" = none) (h : (match tg, args with
    | .Tuple _ _ _, [a] => (denL (escF (d.E G)) [a]).map (mWalk fEnum)
    | _, _ => none) = some mi) : PI X tg (.Call (.Name "enumerate" p) args [] pos) (tI w mi) := by
  have pa : ∀ {es : List Expr} {ms : List (M Hd)}, denL (escF (d.E G)) es = some ms → PA X es (tA w (mArgs ms)) := fun e2 => denL_pa (fun e m => escF_ok D c) e2
  split at h
  · obtain ⟨ms, e1, rfl⟩ := Option.map_eq_some_iff.mp h
    obtain ⟨_, _, _, hs, _, _⟩ := denL_cons e1
    exact si_enum c.kd g.1 g.2 (pa e1) (star_cons hs)
  · cases h
theorem iterE_ok (D : DenOk d) (c : CxP w X G) {tg : Expr} {x : Str} {args : List Expr} {p pos : Pos} {mi : M (List PyData)} (g : Gl X x ∧ X.mg x = none) (h : iterE d G tg x args = some mi) : PI X tg (.Call (.Name x p) args [] pos) (tI w mi) := by
  rcases ite_some h with ⟨e, k⟩ | ⟨_, k⟩
  · subst e; exact iterR_ok D c g k
  rcases ite_some k with ⟨e, k2⟩ | ⟨_, k2⟩
  · subst e; exact iterZ_ok D c g k2
  rcases ite_some k2 with ⟨e, k3⟩ | ⟨_, k3⟩
  · subst e; exact iterN_ok D c g k3
  cases k3
theorem stepI_ok (D : DenOk d) (c : CxP w X G) {tg e : Expr} {mi : M (List PyData)} (h : stepI d G tg e = some mi) : PI X tg e (tI w mi) := by
  unfold stepI at h
  split at h
  · rename_i x args e1
    unfold iterBlt at e1
    split at e1
    · split at e1
      · rename_i e2
        rcases ite_some e1 with ⟨_, e1⟩ | ⟨_, e1⟩
        · cases e1
          obtain ⟨g1, g2, _⟩ := glob_some c e2
          exact iterE_ok D c ⟨g1, g2⟩ h
        · cases e1
      · cases e1
    · cases e1
  · obtain ⟨ma, e1, rfl⟩ := Option.map_eq_some_iff.mp h
    exact si_seq c.kd (D.E c e1)
end
theorem den_ok : ∀ n, DenOk (den n)
  | 0 => ⟨fun _ h => (by cases h), fun _ h => (by cases h), fun _ h => (by cases h)⟩
  | n + 1 => ⟨fun c h => stepE_ok (den_ok n) c h, fun c h => stepT_ok (den_ok n) c h, fun c h => stepI_ok (den_ok n) c h⟩
end Pu
set_option Elab.async false
set_option linter.all false
set_option maxRecDepth 100000
set_option maxHeartbeats 2000000
/-! Pu17: the pure layer: reading statements off the text. -/
namespace Pu
open PySem L2 PyProof.Rows
def isComp : Expr → Bool
  | .ListComp _ _ _ _ => true
  | .SetComp _ _ _ _ => true
  | .DictComp _ _ _ _ _ => true
  | _ => false
/-- whether the comprehension e is stored within its frame -/
def swB (G : Gx) (x : Str) (p : Pos) (e : Expr) : Option Bool := match e with
  | .ListComp _ _ scope q => if G.sc.kind = .function then some (G.sc.names.lookup x == some .local && p.line == q.line && !(scope.names.any fun (n, k) => n == x && (k == .local || k == .cell))) else none
  | .SetComp _ _ _ _ => none
  | .DictComp _ _ _ _ _ => none
  | _ => some false
def localS (G : Gx) (x : Str) : Option Nat := match G.sc.names.lookup x with
  | some .local => let i := G.N.idxOf x; if G.N[i]? = some x then some i else none
  | _ => none
/-- which names are stored in the other order -/
def swpB (G : Gx) (ts vs : List Expr) : Option (Option (List Str)) :=
  if (!(ts.length == 2 || ts.length == 3) || vs.length != ts.length) = true then some none
  else if G.sc.kind = .function then
    if (vs.any isStar) = true then some none
    else
      let line := (ts.head?.map (·.pos.line)).getD 0
      let names := ts.filterMap fun
        | .Name id pos => if G.sc.names.lookup id == some .local && pos.line == line then some id else none
        | _ => none
      if (names.length != ts.length || names.eraseDups.length != names.length) = true then some none
      else if vs.all (foldedForSure 8) = true then some none
      else if vs.all (constantsAlone 8) = true then none else some (some names)
  else none
section
variable {w : Wi} {X : Cx} {G : Gx}
theorem swB_ok (c : CxP w X G) {x : Str} {p : Pos} {e : Expr} {b : Bool} {line : Nat} (h : swB G x p e = some b) : swapsWith e (some (.Name x p)) line X.env = pure b := by
  cases e with
  | ListComp elt gens scope q =>
    unfold swB at h
    rcases ite_some h with ⟨hk, k⟩ | ⟨_, k⟩
    · cases k
      show (pure (X.env.blockKind == .function && X.env.kindOf x == some .local && p.line == q.line && !(scope.names.any fun (n, k) => n == x && (k == .local || k == .cell))) : Sem Bool) = _
      have e1 : X.env.blockKind = .function := by
        unfold Env.blockKind
        rw [c.sc, hk]
        rfl
      have e2 : X.env.kindOf x = G.sc.names.lookup x := by
        show X.env.scope.names.lookup x = _
        rw [c.sc]
      rw [e1, e2]
      rfl
    · cases k
  | SetComp => cases h
  | DictComp => cases h
  | _ => cases h; rfl
theorem swap0 {e : Expr} (h : isComp e = false) {t : Option Expr} {line : Nat} {env : Env} : swapsWith e t line env = pure false := by
  cases e <;> first | rfl | cases h
theorem swapT {e : Expr} {es : List Expr} {k : Nat} {p : Pos} {line : Nat} {env : Env} : swapsWithSole [.Tuple es k p] e line env = pure false := by
  cases e <;> rfl
theorem swapX {e a i : Expr} {p : Pos} {line : Nat} {env : Env} : swapsWithSole [.Subscript a i p] e line env = pure false := by
  cases e <;> rfl
def isTup : Expr → Bool
  | .Tuple _ _ _ => true
  | _ => false
theorem swpT {e : Expr} {es : List Expr} {k : Nat} {p : Pos} {env : Env} (h : isTup e = false) : swappedStores [.Tuple es k p] e env = pure none := by
  cases e <;> first | rfl | cases h
theorem swpX {e a i : Expr} {p : Pos} {env : Env} : swappedStores [.Subscript a i p] e env = pure none := by
  cases e <;> rfl
theorem swpB_ok (c : CxP w X G) {ts vs : List Expr} {k k2 : Nat} {p p2 : Pos} {r : Option (List Str)} (h : swpB G ts vs = some r) : swappedStores [.Tuple ts k p] (.Tuple vs k2 p2) X.env = pure r := by
  unfold swpB at h
  rw [← c.sc] at h
  have e1 : X.env.scope.kind = .function → X.env.blockKind = .function := fun hk => by
    unfold Env.blockKind
    rw [hk]
    rfl
  unfold swappedStores
  dsimp only
  rcases ite_some h with ⟨h1, k1⟩ | ⟨h1, k1⟩
  · cases k1
    exact if_pos (by rw [h1]; rfl)
  have h1 : (!(ts.length == 2 || ts.length == 3) || vs.length != ts.length) = false := by simpa using h1
  rcases ite_some k1 with ⟨h2, k2⟩ | ⟨_, k2⟩
  · refine (if_neg (by rw [h1, e1 h2]; decide)).trans ?_
    rcases ite_some k2 with ⟨h3, k3⟩ | ⟨h3, k3⟩
    · cases k3
      exact if_pos h3
    refine (if_neg h3).trans ?_
    dsimp only at k3
    rcases ite_some k3 with ⟨h4, k4⟩ | ⟨h4, k4⟩
    · cases k4
      exact if_pos h4
    refine (if_neg h4).trans ?_
    rcases ite_some k4 with ⟨h5, k5⟩ | ⟨h5, k5⟩
    · cases k5
      exact if_pos h5
    refine (if_neg h5).trans ?_
    rcases ite_some k5 with ⟨h6, k6⟩ | ⟨h6, k6⟩
    · cases k6
    refine (if_neg h6).trans ?_
    cases k6
    rfl
  · cases k2
end

/-! ### statements -/
def esrF (f : Expr → Option (M Hd)) (e : Expr) : Option (M Hd) := (f e).map mEsr
def asgNm (d : Den) (G : Gx) (x : Str) (p : Pos) (e : Expr) : Option (M Fl) := match swB G x p e with
  | some false => (match slotS G x, d.E G e with
    | some i, some m => some (mSet i m)
    | _, _ => none)
  | some true => (match localS G x, e with
    | some i, .ListComp elt gens scope _ => (compE d G elt gens scope).map (mSet i)
    | _, _ => none)
  | none => none
def par2E (d : Den) (G : Gx) (x y : Str) (px py : Pos) (a b : Expr) : Option (M Fl) := match localS G x, localS G y, denL (esrF (d.E G)) [a, b] with
  | some i, some j, some ms => if i ≠ j ∧ swpB G [.Name x px, .Name y py] [a, b] = some (some [x, y]) then some (mPar [i, j] ms) else none
  | _, _, _ => none
def par3E (d : Den) (G : Gx) (x y z : Str) (px py pz : Pos) (a b c : Expr) : Option (M Fl) := match localS G x, localS G y, localS G z, denL (esrF (d.E G)) [a, b, c] with
  | some i, some j, some l, some ms => if i ≠ j ∧ i ≠ l ∧ j ≠ l ∧ swpB G [.Name x px, .Name y py, .Name z pz] [a, b, c] = some (some [x, y, z]) then some (mPar [i, j, l] ms) else none
  | _, _, _, _ => none
def parN (d : Den) (G : Gx) (ts vs : List Expr) : Option (M Fl) := match denNs G ts, denL (esrF (d.E G)) vs with
  | some is, some ms => if is.length ≤ lim then some (mPar is ms) else none
  | _, _ => none
def parE (d : Den) (G : Gx) (ts vs : List Expr) : Option (M Fl) := match swpB G ts vs with
  | some none => parN d G ts vs
  | some (some _) => (match ts, vs with
    | [.Name x px, .Name y py], [a, b] => par2E d G x y px py a b
    | [.Name x px, .Name y py, .Name z pz], [a, b, c] => par3E d G x y z px py pz a b c
    | _, _ => none)
  | none => none
def isSlice : Expr → Bool
  | .Slice _ _ _ _ => true
  | _ => false
def storeE (d : Den) (G : Gx) (x : Str) (i e : Expr) : Option (M Fl) := if okName x = true ∧ isSlice i = false then (match slotE G x, d.E G i, d.E G e with
  | some k, some mi, some me => some (mStore k mi me)
  | _, _, _ => none) else none
def asgE (d : Den) (G : Gx) (ts : List Expr) (e : Expr) : Option (M Fl) := match ts with
  | [.Name x p] => asgNm d G x p e
  | [.Tuple es k p] => (match e with
    | .Tuple vs _ _ => parE d G es vs
    | _ => (match denG G (.Tuple es k p), d.E G e with
      | some t, some m => some (mAsg t m)
      | _, _ => none))
  | [.Subscript (.Name x _) i _] => storeE d G x i e
  | _ => none
/-- x.append(a) -/
def appE (d : Den) (G : Gx) (x at_ : Str) (apos cpos : Pos) (args : List Expr) : Option (M Fl) := match args with
  | [a] => if at_ = "append" ∧ okName x = true ∧ isStar a = false ∧ (apos.endLine == cpos.line) = true then (match slotE G x, d.E G a with
    | some k, some m => some (mApp k m)
    | _, _ => none) else none
  | _ => none
def dropE (d : Den) (G : Gx) (e : Expr) : Option (M Fl) := if isComp e = true then none else (d.E G e).map mDrop
def exprE (d : Den) (G : Gx) (e : Expr) : Option (M Fl) := match e with
  | .Constant (.str _) _ _ => some (mFl .next)
  | .Call (.Attribute (.Name x _) at_ apos) args [] cpos => appE d G x at_ apos cpos args
  | e => dropE d G e
def denBlk (f : Stmt → Option (M Fl)) : List Stmt → Option (List (M Fl))
  | [] => some []
  | s :: ss => match f s, denBlk f ss with
    | some m, some ms => some (m :: ms)
    | _, _ => none
def forE (d : Den) (f : Stmt → Option (M Fl)) (G : Gx) (tg iter : Expr) (body orelse : List Stmt) : Option (M Fl) := match orelse with
  | [] => if isSet iter = true then none else (match d.I G tg iter, denG G tg, denBlk f body with
    | some mi, some t, some ms => some (mFor mi t (mBlk ms))
    | _, _, _ => none)
  | _ => none
def whileE (d : Den) (f : Stmt → Option (M Fl)) (G : Gx) (c : Expr) (body orelse : List Stmt) : Option (M Fl) := match orelse with
  | [] => (match d.T G c, denBlk f body with
    | some mc, some ms => some (mWhile 18446744073709551616 mc (mBlk ms))
    | _, _ => none)
  | _ => none
def ifS (d : Den) (f : Stmt → Option (M Fl)) (G : Gx) (c : Expr) (a b : List Stmt) : Option (M Fl) := match d.T G c, denBlk f a, denBlk f b with
  | some mc, some ma, some mb => some (mIfS mc (mBlk ma) (mBlk mb))
  | _, _, _ => none
def stmtE (d : Den) (f : Stmt → Option (M Fl)) (G : Gx) : Stmt → Option (M Fl)
  | .Return none _ => some (mFl (.ret (.fz .none)))
  | .Return (some e) _ => (d.E G e).map mRet
  | .Assign ts e _ => asgE d G ts e
  | .For tg iter body orelse _ => forE d f G tg iter body orelse
  | .While c body orelse _ => whileE d f G c body orelse
  | .If c a b _ => ifS d f G c a b
  | .Expr e _ => exprE d G e
  | .Pass _ => some (mFl .next)
  | .Break _ => some (mFl .brk)
  | .Continue _ => some (mFl .cont)
  | _ => none
def denS (d : Den) (G : Gx) : Nat → Stmt → Option (M Fl)
  | 0 => fun _ => none
  | n + 1 => stmtE d (denS d G n) G
/-- a def's body -/
def denD (G : Gx) (body : List Stmt) : Option (M Fl) := (denBlk (denS (den 40) G 12) body).map mBlk
end Pu
set_option Elab.async false
set_option linter.all false
set_option maxRecDepth 100000
set_option maxHeartbeats 2000000
/-! Pu18: the pure layer: what is read off the text is what it does (statements). -/
namespace Pu
open PySem L2 PyProof.Rows
section
variable {w : Wi} {X : Cx} {G : Gx} {d : Den} {m : M Fl}
theorem localS_some (c : CxP w X G) {x : Str} {i : Nat} (h : localS G x = some i) : X.N[i]? = some x ∧ X.env.scope.names.lookup x = some .local := by
  unfold localS at h
  rw [c.nn, c.sc]
  split at h
  · rename_i e
    rcases ite_some h with ⟨e2, k⟩ | ⟨_, k⟩
    · cases k; exact ⟨e2, e⟩
    · cases k
  · cases h
theorem asgNm_ok (D : DenOk d) (c : CxP w X G) {x : Str} {p pos : Pos} {e : Expr} (h : asgNm d G x p e = some m) : PS X (.Assign [.Name x p] e pos) (tS w m) := by
  unfold asgNm at h
  split at h
  · rename_i hb
    split at h
    · rename_i i m' e1 e2
      cases h
      obtain ⟨h1, h2, h3⟩ := slotS_some c e1
      exact ss_set c.nd h1 h2 (D.E c e2) (swB_ok c hb) h3
    · cases h
  · rename_i hb
    split at h
    · rename_i i elt gens scope q e1
      obtain ⟨mc', e2, rfl⟩ := Option.map_eq_some_iff.mp h
      obtain ⟨tg, iter, ifs, mi, t, mc, me, rfl, rfl, h1, h2, h3, h4, h5, h6, h7⟩ := comp_facts D c e2
      obtain ⟨g1, g2⟩ := localS_some c e1
      exact ss_setLc c.calm c.nd g1 g2 (swB_ok c hb) h1 h2 h3 h4 h5 h6 h7
    · cases h
  · cases h
theorem denNs_gn (c : CxP w X G) : ∀ {es : List Expr} {is : List Nat}, denNs G es = some is → PGs X es (gNs is)
  | [], is, h => by cases h; exact gns_nil
  | .Name x p :: es, is, h => by
    have h : (match slotS G x, denNs G es with
      | some i, some is => some (i :: is)
      | _, _ => none) = some is := h
    split at h
    · rename_i i is' e1 e2
      cases h
      obtain ⟨h1, h2, h3⟩ := slotS_some c e1
      exact gns_cons (pg_name c.nd h1 h2 h3) (denNs_gn c e2) rfl
    · cases h
  | .BoolOp .. :: _, _, h | .NamedExpr .. :: _, _, h | .BinOp .. :: _, _, h | .UnaryOp .. :: _, _, h | .Lambda .. :: _, _, h | .IfExp .. :: _, _, h | .Dict .. :: _, _, h | .Set .. :: _, _, h | .ListComp .. :: _, _, h | .SetComp .. :: _, _, h | .DictComp .. :: _, _, h | .GeneratorExp .. :: _, _, h
  | .Await .. :: _, _, h | .Yield .. :: _, _, h | .YieldFrom .. :: _, _, h | .Compare .. :: _, _, h | .Call .. :: _, _, h | .FormattedValue .. :: _, _, h | .JoinedStr .. :: _, _, h | .Constant .. :: _, _, h | .Attribute .. :: _, _, h | .Subscript .. :: _, _, h | .Starred .. :: _, _, h | .List .. :: _, _, h | .Tuple .. :: _, _, h | .Slice .. :: _, _, h => by cases h
theorem esrF_ok (D : DenOk d) (c : CxP w X G) {e : Expr} {m : M Hd} (h : esrF (d.E G) e = some m) : PE X e (tK w m) := by
  obtain ⟨ma, e1, rfl⟩ := Option.map_eq_some_iff.mp h
  exact se_esr (D.E c e1)
theorem den_pa (D : DenOk d) (c : CxP w X G) {es : List Expr} {ms : List (M Hd)} (h : denL (esrF (d.E G)) es = some ms) : PA X es (tA w (mArgs ms)) := denL_pa (fun e m => esrF_ok D c) h
theorem parN_ok (D : DenOk d) (c : CxP w X G) {ts vs : List Expr} {pt pos p2 : Pos} {k k2 : Nat} (hr : swpB G ts vs = some none) (h : parN d G ts vs = some m) : PS X (.Assign [.Tuple ts k pt] (.Tuple vs k2 p2) pos) (tS w m) := by
  unfold parN at h
  split at h
  · rename_i is ms e1 e2
    rcases ite_some h with ⟨hl, q⟩ | ⟨_, q⟩
    · cases q
      obtain ⟨h1, h2, h3⟩ := denNs_ok c e1
      exact ss_parN hl c.calm (den_pa D c e2) (denNs_gn c e1) h2 h3 swapT (swpB_ok c hr) rfl
    · cases q
  · cases h
theorem par2E_ok (D : DenOk d) (c : CxP w X G) {x y : Str} {px py pt pos p2 : Pos} {a b : Expr} {k k2 : Nat} (h : par2E d G x y px py a b = some m) : PS X (.Assign [.Tuple [.Name x px, .Name y py] k pt] (.Tuple [a, b] k2 p2) pos) (tS w m) := by
  unfold par2E at h
  split at h
  · rename_i i j ms e1 e2 e3
    rcases ite_some h with ⟨⟨hl, hs⟩, q⟩ | ⟨_, q⟩
    · cases q
      obtain ⟨a1, a2⟩ := localS_some c e1
      obtain ⟨b1, b2⟩ := localS_some c e2
      exact ss_par2 c.calm c.nd a1 b1 hl a2 b2 (den_pa D c e3) (swpB_ok c hs) swapT
    · cases q
  · cases h
theorem par3E_ok (D : DenOk d) (c : CxP w X G) {x y z : Str} {px py pz pt pos p2 : Pos} {a b e : Expr} {k k2 : Nat} (h : par3E d G x y z px py pz a b e = some m) : PS X (.Assign [.Tuple [.Name x px, .Name y py, .Name z pz] k pt] (.Tuple [a, b, e] k2 p2) pos) (tS w m) := by
  unfold par3E at h
  split at h
  · rename_i i j l ms e1 e2 e3 e4
    rcases ite_some h with ⟨⟨h1, h2, h3, hs⟩, q⟩ | ⟨_, q⟩
    · cases q
      obtain ⟨a1, a2⟩ := localS_some c e1
      obtain ⟨b1, b2⟩ := localS_some c e2
      obtain ⟨c1, c2⟩ := localS_some c e3
      exact ss_par3 c.calm c.nd a1 b1 c1 h1 h2 h3 a2 b2 c2 (den_pa D c e4) (swpB_ok c hs) swapT
    · cases q
  · cases h
theorem parE_ok (D : DenOk d) (c : CxP w X G) {ts vs : List Expr} {pt pos p2 : Pos} {k k2 : Nat} (h : parE d G ts vs = some m) : PS X (.Assign [.Tuple ts k pt] (.Tuple vs k2 p2) pos) (tS w m) := by
  unfold parE at h
  split at h
  · rename_i hr
    exact parN_ok D c hr h
  · split at h
    · exact par2E_ok D c h
    · exact par3E_ok D c h
    · cases h
  · cases h
theorem storeE_ok (D : DenOk d) (c : CxP w X G) {x : Str} {i e : Expr} {px ps pos : Pos} (h : storeE d G x i e = some m) : PS X (.Assign [.Subscript (.Name x px) i ps] e pos) (tS w m) := by
  unfold storeE at h
  rcases ite_some h with ⟨⟨ho, hs⟩, q⟩ | ⟨_, q⟩
  · obtain ⟨k1, k2, k3⟩ := okName_of ho
    split at q
    · rename_i k mi me e1 e2 e3
      cases q
      obtain ⟨g1, g2⟩ := slotE_some c e1
      exact ss_store g1 g2 k1 k2 (D.E c e2) (D.E c e3) (fun v => by cases i <;> first | rfl | cases hs) swapX swpX rfl
    · cases q
  · cases q
theorem asgE_ok (D : DenOk d) (c : CxP w X G) {ts : List Expr} {e : Expr} {pos : Pos} (h : asgE d G ts e = some m) : PS X (.Assign ts e pos) (tS w m) := by
  unfold asgE at h
  split at h
  · exact asgNm_ok D c h
  · rename_i es k p
    split at h
    · exact parE_ok D c h
    · rename_i n
      split at h
      · rename_i t m' e1 e2
        cases h
        refine ss_asg (D.E c e2) (denG_ok c e1) swapT (swpT ?_) rfl
        cases e <;> first | rfl | exact absurd rfl (n _ _ _)
      · cases h
  · exact storeE_ok D c h
  · cases h
theorem appE_ok (D : DenOk d) (c : CxP w X G) {x at_ : Str} {args : List Expr} {px apos cpos pos : Pos} (h : appE d G x at_ apos cpos args = some m) : PS X (.Expr (.Call (.Attribute (.Name x px) at_ apos) args [] cpos) pos) (tS w m) := by
  unfold appE at h
  split at h
  · rename_i a
    rcases ite_some h with ⟨⟨h1, ho, hs, hl⟩, q⟩ | ⟨_, q⟩
    · obtain ⟨k1, k2, k3⟩ := okName_of ho
      subst h1
      split at q
      · rename_i k m' e1 e2
        cases q
        obtain ⟨g1, g2⟩ := slotE_some c e1
        exact ss_app g1 g2 k1 k2 (D.E c e2) (star_cons hs) rfl (by rw [star_cons hs]; rfl) hl rfl (swap0 rfl)
      · cases q
    · cases q
  · cases h
theorem dropE_ok (D : DenOk d) (c : CxP w X G) {e : Expr} {pos : Pos} (h : dropE d G e = some m) : PS X (.Expr e pos) (tS w m) := by
  unfold dropE at h
  split at h
  · cases h
  · rename_i hc
    obtain ⟨m', e1, rfl⟩ := Option.map_eq_some_iff.mp h
    exact ss_drop (D.E c e1) (swap0 (by simpa using hc))
theorem exprE_ok (D : DenOk d) (c : CxP w X G) {e : Expr} {pos : Pos} (h : exprE d G e = some m) : PS X (.Expr e pos) (tS w m) := by
  unfold exprE at h
  split at h
  · cases h; exact ss_doc
  · exact appE_ok D c h
  · exact dropE_ok D c h
def SOk (w : Wi) (X : Cx) (f : Stmt → Option (M Fl)) : Prop := ∀ {s : Stmt} {m : M Fl}, f s = some m → PS X s (tS w m)
theorem denBlk_ok {f : Stmt → Option (M Fl)} (hf : SOk w X f) : ∀ {ss : List Stmt} {ms : List (M Fl)}, denBlk f ss = some ms → PSs X ss (tS w (mBlk ms))
  | [], ms, h => by cases h; exact ss_nil
  | s :: ss, ms, h => by
    unfold denBlk at h
    split at h
    · rename_i m' ms' e1 e2
      cases h
      exact ss_cons (hf e1) (denBlk_ok hf e2)
    · cases h
theorem stmtE_ok {f : Stmt → Option (M Fl)} (D : DenOk d) (c : CxP w X G) (hp : PassesOwn (model X.prog X.w) X.A X.env X.xe) (hf : SOk w X f) {s : Stmt} (h : stmtE d f G s = some m) : PS X s (tS w m) := by
  cases s with
  | Return v p =>
    cases v with
    | none => cases h; exact ss_retN
    | some e =>
      obtain ⟨m', e1, rfl⟩ := Option.map_eq_some_iff.mp (show (d.E G e).map mRet = some m from h)
      exact ss_ret (D.E c e1)
  | Assign ts e p => exact asgE_ok D c h
  | For tg iter body orelse p =>
    have h : forE d f G tg iter body orelse = some m := h
    unfold forE at h
    split at h
    · split at h
      · cases h
      · rename_i hs
        split at h
        · rename_i mi t ms e1 e2 e3
          cases h
          exact ss_for hp c.calm (D.I c e1) (denG_ok c e2) (denBlk_ok hf e3) (notSet (by simpa using hs) _)
        · cases h
    · cases h
  | While t body orelse p =>
    have h : whileE d f G t body orelse = some m := h
    unfold whileE at h
    split at h
    · split at h
      · rename_i mc ms e1 e2
        cases h
        exact ss_while hp (D.T c e1) (denBlk_ok hf e2)
      · cases h
    · cases h
  | If t a b p =>
    have h : ifS d f G t a b = some m := h
    unfold ifS at h
    split at h
    · rename_i mc ma mb e1 e2 e3
      cases h
      exact ss_if (D.T c e1) (denBlk_ok hf e2) (denBlk_ok hf e3)
    · cases h
  | Expr e p => exact exprE_ok D c h
  | Pass p => cases h; exact ss_pass
  | Break p => cases h; exact ss_break
  | Continue p => cases h; exact ss_continue
  | _ => cases h
theorem denS_ok (D : DenOk d) (c : CxP w X G) (hp : PassesOwn (model X.prog X.w) X.A X.env X.xe) : ∀ n, SOk w X (denS d G n)
  | 0 => fun h => by cases h
  | n + 1 => fun h => stmtE_ok D c hp (denS_ok D c hp n) h
theorem denD_ok (c : CxP w X G) (hp : PassesOwn (model X.prog X.w) X.A X.env X.xe) {body : List Stmt} (h : denD G body = some m) : PSs X body (tS w m) := by
  obtain ⟨ms, e1, rfl⟩ := Option.map_eq_some_iff.mp h
  exact denBlk_ok (denS_ok (den_ok 40) c hp 12) e1
end
end Pu
set_option Elab.async false
set_option linter.all false
set_option maxRecDepth 100000
set_option maxHeartbeats 2000000
/-! Pu19: the pure layer: a def's promise, read off its text. -/
namespace Pu
open PySem L2 PyProof.Rows
/-- what is known of a global name at a level -/
def GvK (P : Program) (w : World) (K : PySem.W.Frag) (mg : Str → Option Value) (base : Heap) (XR : Exn → Value → Option Addr → Hp → Prop) (k : Nat) (x : Str) : Gv → Prop
  | .fn n _ pf => ∃ f fd ps, ps.length = n ∧ FnOk P w K mg base (L2.CX P w) k f fd ps (spP K XR n pf) ∧ mg x = some (.ref f) ∧ PySem.W.keepIn K (.ref f) = true ∧ Binds K fd ps []
  | .con d => ∃ u v, mg x = some u ∧ RelV v u ∧ ∀ F, Rp K F v d
  | .blt => mg x = none
theorem mem_of_look {α β : Type} [BEq β] [LawfulBEq β] {x : β} {g : α} : ∀ {l : List (β × α)}, l.lookup x = some g → (x, g) ∈ l
  | [], h => by cases h
  | (y, v) :: r, h => by
    rw [List.lookup_cons] at h
    split at h
    · rename_i e
      cases h
      have : x = y := by simpa using e
      rw [this]
      exact List.mem_cons_self
    · exact List.mem_cons_of_mem _ (mem_of_look h)
section
variable {P : Program} {w : World} {K : PySem.W.Frag} {mg : Str → Option Value} {base : Heap} {XR : Exn → Value → Option Addr → Hp → Prop}
theorem GvK.mono {j k : Nat} {x : Str} {g : Gv} (h : GvK P w K mg base XR j x g) (l : j ≤ k) : GvK P w K mg base XR k x g := by
  cases g with
  | fn n io pf =>
    obtain ⟨f, fd, ps, h1, h2, h3⟩ := h
    exact ⟨f, fd, ps, h1, h2.mono l, h3⟩
  | con d => exact h
  | blt => exact h
theorem fn_den {x qual : Str} {st : Stmt} {f : Addr} {fd : FuncData} {N ps : List Str} {k : Nat} {gl : List (Str × Gv)} {body : M Fl} (Fn : Fun K x qual st f fd) (S : FnScope N ps (defScope st)) (hg : ∀ p ∈ gl, GvK P w K mg base XR k p.1 p.2)
    (hd : denD ⟨N, defScope st, fun _ => true, gl⟩ (defBody st) = some body) : FnOk P w K mg base (L2.CX P w) (k + 1) f fd ps (spP K XR ps.length (pfOf N.length body)) := by
  refine fn_pure Fn S fun cdv A outer s H E hr => ?_
  refine denD_ok (G := ⟨N, defScope st, fun _ => true, gl⟩) ⟨rfl, rfl, S.nd, rfl, rfl, fun _ _ => rfl, ?_, takes_of rfl rfl rfl rfl, fun y g h => ?_⟩ (passes_of rfl) hd
  · have := hr.un
    show (A.deeper (envOfC qual (defScope st) s.heap.objs.size f cdv)).units + 70 < cLine
    omega
  · have z := hg (y, g) (mem_of_look h)
    cases g with
    | fn n io pf =>
      obtain ⟨f', fd', ps', h1, h2, h3, h4, h5⟩ := z
      exact ⟨k, f', fd', ps', h1, h2, hr, h3, h4, h5⟩
    | con d => exact z
    | blt => exact z
end
end Pu
set_option Elab.async false
set_option linter.all false
set_option maxRecDepth 100000
set_option maxHeartbeats 2000000
/-! Pu20: the pure layer: a law's end. -/
namespace Pu
open PySem L2 PyProof.Rows
/-! ### defs as the head tells them -/
section
variable {P : Program} {w : World} {K : PySem.W.Frag} {mg : Str → Option Value} {base : Heap} {XR : Exn → Value → Option Addr → Hp → Prop}
theorem fun_nodef {x qual : Str} {st : Stmt} {f : Addr} {fd : FuncData} {kws : List (Str × V)} (F : FunD K x qual (defArgs st) (defBody st) (defScope st) [] kws f fd) : Fun K x qual st f fd := by
  obtain ⟨o1, o2, dV, o3, o4, o5, o6, o7, o8, o9, e, lk, cd, hD, hW⟩ := F.ex
  have e2 : dV = .none := by
    rcases hD with ⟨_, q⟩ | ⟨n, _⟩
    · exact q
    · exact absurd rfl n
  rw [e2] at e
  exact ⟨⟨o1, o2, o3, o4, o5, o6, o7, o8, o9, e, lk, cd⟩, F.kp⟩
theorem fnok_bad {k n : Nat} {f : Addr} {fd : FuncData} {ps : List Str} : FnOk P w K mg base (L2.CX P w) k f fd ps (spP K XR n fun _ => .bad) :=
  ⟨fun _ _ _ _ ⟨_, _, _, _, _, z⟩ => z.elim, fun _ _ _ _ _ _ _ _ _ _ _ _ _ ⟨_, _, _, _, _, z⟩ => z.elim⟩
end
theorem gl_nil {P : Program} {w : World} {K : PySem.W.Frag} {mg : Str → Option Value} {base : Heap} {XR : Exn → Value → Option Addr → Hp → Prop} {k : Nat} : ∀ p ∈ ([] : List (Str × Gv)), GvK P w K mg base XR k p.1 p.2 := fun _ h => by cases h
theorem gl_cons {P : Program} {w : World} {K : PySem.W.Frag} {mg : Str → Option Value} {base : Heap} {XR : Exn → Value → Option Addr → Hp → Prop} {k : Nat} {x : Str} {g : Gv} {gl : List (Str × Gv)} (h : GvK P w K mg base XR k x g) (t : ∀ p ∈ gl, GvK P w K mg base XR k p.1 p.2) : ∀ p ∈ ((x, g) :: gl), GvK P w K mg base XR k p.1 p.2 := fun p hp => by
  rcases List.mem_cons.mp hp with e | hp
  · rw [e]; exact h
  · exact t p hp
theorem gv_int {P : Program} {w : World} {K : PySem.W.Frag} {mg : Str → Option Value} {base : Heap} {XR : Exn → Value → Option Addr → Hp → Prop} {k : Nat} {x : Str} {i : Int} (h : ∃ t, mg x = some (.int i t)) : GvK P w K mg base XR k x (.con (.int i)) := by
  obtain ⟨t, e⟩ := h
  exact ⟨_, .int i, e, ⟨t, rfl⟩, fun F => .int i⟩
theorem gv_free {P : Program} {w : World} {K : PySem.W.Frag} {mg : Str → Option Value} {base : Heap} {XR : Exn → Value → Option Addr → Hp → Prop} {k : Nat} {x : Str} (h : mg x = none) : GvK P w K mg base XR k x .blt := h
/-! ### the hook: the head's facts, and that no list of the program's own is told of -/
def isL (o : Obj) : Bool := decide (o.cls = .type "list")
def noL (K : PySem.W.Frag) : Bool := K.all fun q => !isL q.2
def hookP (n : Nat) (fa : List He.Fa) (fn : List He.DefD) (ex : PySem.W.Frag → Bool) : PySem.W.Hook where
  α := He.AlD × Bool
  obs := fun s => (He.obsDG n fa fn s.heap.get?, noL (He.frG s.heap.get? (He.asD s.heap.get? n)) && ex (He.frG s.heap.get? (He.asD s.heap.get? n)))
  val := fun _ => (He.valD fn, true)
  says := fun _ h => ∃ K : PySem.W.Frag, K.In h ∧ He.SaysD fa fn K ∧ noL K = true ∧ ex K = true
  of := fun _ _ e => ⟨_, He.frG_in, congrArg (fun z : He.AlD × Bool => z.1) e, Bool.and_eq_true_iff.mp (congrArg (fun z : He.AlD × Bool => z.2) e)⟩
  keeps := fun _ _ _ ⟨K, hK, c⟩ k => ⟨K, PySem.W.Frag.In.keeps hK k, c⟩
def obP (n : Nat) (fa : List He.Fa) (fn : List He.DefD) (ex : PySem.W.Frag → Bool) (g : Addr → Option Obj) : He.AlD × Bool := (He.obsDG n fa fn g, noL (He.frG g (He.asD g n)) && ex (He.frG g (He.asD g n)))
theorem obP_eq {n : Nat} {fa : List He.Fa} {fn : List He.DefD} {ex : PySem.W.Frag → Bool} {g : Addr → Option Obj} {s : Shared} (h : ∀ a, g a = s.heap.get? a) : obP n fa fn ex g = (hookP n fa fn ex).obs s := by
  have e : g = s.heap.get? := funext h
  subst e
  rfl
theorem noL_at : ∀ {K : PySem.W.Frag} {a : Addr} {o : Obj}, noL K = true → K.lookup a = some o → o.cls ≠ .type "list" := fun {K a o} h e z => by
  have q := List.all_eq_true.mp h (a, o) (mem_of_look e)
  unfold isL at q
  rw [decide_eq_true z] at q
  cases q
/-! ### the law's promise -/
def dInts (ns : List Int) : List D := ns.map PyData.int
theorem law_sp {K : PySem.W.Frag} {XR : Exn → Value → Option Addr → Hp → Prop} {pf : PF} {ns : List Int} {H : Hp} {a : Addr} (hpf : ∃ ρ', pf [.frz (.list (dInts ns))] = .ok (.fz (.bool true)) ρ') (hK : noL K = true) (hS : SqL K H a (ns.map V.int)) :
    spP K XR 1 pf [.ref a] H (fun v _ => v = .bl true) fun _ _ _ => False := by
  have q : Rd H a (.lst (ns.map V.int)) := by
    rcases hS with q | ⟨o, its, n, e, c, _⟩
    · exact q
    · exact absurd c (noL_at hK e)
  have ra : ∀ (F : Hp) (ns : List Int), RpAll K F (ns.map V.int) (dInts ns) := fun F ns => by
    unfold dInts
    induction ns with
    | nil => exact .nil
    | cons n ns ih => exact .cons (.int n) ih
  have rp : Rp K H (.ref a) (.list (dInts ns)) := .lst q (ra H ns)
  refine ⟨H, [.frz (.list (dInts ns))], ⟨rfl, Sub.refl H, fun i s h => ?_, fun i j s t b hi _ ms _ _ _ => ?_⟩, rfl, fun s h xs e => ?_, ?_⟩
  · cases i with
    | zero => cases h; exact ⟨.ref a, rfl, rp⟩
    | succ i => simp at h
  · cases i with
    | zero => cases hi; cases ms
    | succ i => simp at hi
  · rcases List.mem_singleton.mp h with rfl
    cases e
  · obtain ⟨ρ', e⟩ := hpf
    rw [e]
    intro v F' H' _ hv
    have hv : Rp K F' v (.bool true) := hv
    cases hv
    rfl
/-- from the head to the law's promise (no exception leaves the law) -/
theorem walk_pu {l : PySem.W.OpenLaw} {k : Nat} {q : Program} {loose : List Str} {XP : (Str → Option Value) → Heap → Prop} {YP : World → Heap → Prop} {d : DefRec} {x : Str} {pf : PF} {XR : PySem.W.Frag → Exn → Value → Option Addr → Hp → Prop} (hm : l.most = some 63) (hdf : d.params.defaults = []) (hr : Room k callerA)
    (hpf : ∀ ns : List Int, ns.length ≤ 63 → ∃ ρ', pf [.frz (.list (dInts ns))] = .ok (.fz (.bool true)) ρ')
    (hF : ∀ (w : World) (mg : Str → Option Value) (fa : Addr) (h : Heap), YP w h → h.Ns mainGlobals mg → mg d.name = some (.ref fa) →
      ∃ (K : PySem.W.Frag) (fd : FuncData), K.In h ∧ noL K = true ∧ (∀ (s : Shared) (u : Value), BindsTo s fd ⟨[u], []⟩ [(x, u)]) ∧
        ∀ base : Heap, K.In base → base.Ns mainGlobals mg → FnOk l.prog w K mg base (L2.CX l.prog w) k fa fd [x] (spP K (XR K) 1 pf)) : PySem.W.WalkO q loose XP YP l.row.toRowW d [] (fun f vs => PySem.call f vs) := by
  refine Att.attach_call hm hdf fun w _ s1 mg _ fa _ _ _ _ a _ ns G Y _ _ _ gm hobj hi hlen hg => ?_
  obtain ⟨K, fd, hK, hno, hb, F⟩ := hF w mg fa _ Y G.T.g gm
  refine law_call hK G.T.g G.T.b G.T.builtins G.T.nolimit hg hobj hi (Nat.le_trans hlen (by decide)) hr F hb (fun H _ hS => law_sp (hpf ns hlen) hno hS) fun H e s' hc => ?_
  obtain ⟨_, _, _, _, _, _, _, _, _, _, _, _, z⟩ := hc
  exact z.elim
end Pu
set_option Elab.async false
set_option linter.all false
set_option maxRecDepth 100000
set_option maxHeartbeats 1000000
/-! Px1: running the pure words. -/
namespace Pu
open PySem L2
/-- r ends well, with Q -/
def Wd {α : Type} (r : Res α) (Q : α → Ev → Prop) : Prop := match r with
  | .ok a ρ => Q a ρ
  | _ => False
/-- what is answered, whatever the slots -/
def resV (r : Res RV) : Option RV := match r with
  | .ok r _ => some r
  | _ => none
def opP {α : Type} (o : Option α) (Q : α → Prop) : Prop := match o with
  | some a => Q a
  | none => False
section
variable {α β : Type} {ρ : Ev}
@[simp] theorem wd_ok {a : α} {Q : α → Ev → Prop} : Wd (.ok a ρ) Q = Q a ρ := rfl
@[simp] theorem wd_bad {Q : α → Ev → Prop} : Wd .bad Q = False := rfl
@[simp] theorem wd_exc {x : Exn} {Q : α → Ev → Prop} : Wd (.exc x ρ) Q = False := rfl
@[simp] theorem wd_bind {r : Res α} {f : α → M β} {Q : β → Ev → Prop} : Wd (r.bind f) Q = Wd r (fun a ρ => Wd (f a ρ) Q) := by cases r <;> rfl
theorem Wd.imp {r : Res α} {Q Q' : α → Ev → Prop} (h : Wd r Q) (i : ∀ a ρ, Q a ρ → Q' a ρ) : Wd r Q' := by
  cases r with
  | ok a ρ => exact i a ρ h
  | exc x ρ => exact h
  | bad => exact h
theorem Wd.get {r : Res α} {Q : α → Ev → Prop} (h : Wd r Q) : ∃ a ρ, r = .ok a ρ ∧ Q a ρ := by
  cases r with
  | ok a ρ => exact ⟨a, ρ, rfl, h⟩
  | exc x ρ => exact h.elim
  | bad => exact h.elim
@[simp] theorem opP_some {a : α} {Q : α → Prop} : opP (some a) Q = Q a := rfl
@[simp] theorem opP_none {Q : α → Prop} : opP none Q = False := rfl
@[simp] theorem bind_ok {a : α} {f : α → M β} : (Res.ok a ρ).bind f = f a ρ := rfl
@[simp] theorem bind_bad {f : α → M β} : (Res.bad : Res α).bind f = .bad := rfl
@[simp] theorem bind_exc {x : Exn} {f : α → M β} : (Res.exc x ρ : Res α).bind f = .exc x ρ := rfl
theorem resV_some {r : Res RV} {v : RV} (h : resV r = some v) : ∃ ρ, r = .ok v ρ := by
  cases r with
  | ok a ρ => cases h; exact ⟨ρ, rfl⟩
  | exc x ρ => cases h
  | bad => cases h
theorem resV_wd {r : Res RV} {v : RV} (h : Wd r fun a _ => a = v) : resV r = some v := by
  obtain ⟨a, ρ, e, rfl⟩ := h.get
  rw [e]; rfl
@[simp] theorem x_mC {d : D} : mC d ρ = .ok (.v (.fz d)) ρ := rfl
@[simp] theorem x_mSlot {i : Nat} : mSlot i ρ = match ρ[i]?.join with
  | some _ => .ok (.s i) ρ
  | none => .bad := rfl
@[simp] theorem x_mEsc {m : M Hd} : mEsc m ρ = (m ρ).bind esc := rfl
@[simp] theorem x_mEsr {m : M Hd} : mEsr m ρ = (m ρ).bind esr := rfl
@[simp] theorem x_esc_v {r : RV} : esc (.v r) ρ = .ok (.v (.fz r.d)) ρ := rfl
@[simp] theorem x_esc_s {i : Nat} : esc (.s i) ρ = match ρ[i]?.join with
    | some (.frz d) => .ok (.v (.fz d)) ρ
    | some (.own xs) => .ok (.v (.fz (.list xs))) (ρ.set i (some (.frz (.list xs))))
    | some (.io _) => .bad
    | none => .bad := rfl
@[simp] theorem x_esr_v {r : RV} : esr (.v r) ρ = .ok (.v r) ρ := rfl
@[simp] theorem x_esr_s {i : Nat} : esr (.s i) ρ = esc (.s i) ρ := rfl
@[simp] theorem x_fz {d : D} : RV.d (.fz d) = d := rfl
@[simp] theorem x_fr {xs : List D} : RV.d (.fr xs) = .list xs := rfl
@[simp] theorem x_sfrz {d : D} : Sl.d (.frz d) = d := rfl
@[simp] theorem x_sown {xs : List D} : Sl.d (.own xs) = .list xs := rfl
@[simp] theorem x_sio {xs : List D} : Sl.d (.io xs) = .list xs := rfl
@[simp] theorem x_rd_v {r : RV} : rd (.v r) ρ = some r.d := rfl
@[simp] theorem x_rd_s {i : Nat} : rd (.s i) ρ = (ρ[i]?.join).map Sl.d := rfl
@[simp] theorem x_asB {h : Hd} : asB h ρ = match rd h ρ with
  | some (.bool b) => some b
  | _ => none := rfl
@[simp] theorem x_mBin {f : D → D → Option RV} {a b : M Hd} : mBin f a b ρ = (a ρ).bind fun h1 ρ1 => (b ρ1).bind fun h2 ρ2 => prim2 f h1 h2 ρ2 := rfl
@[simp] theorem wd_prim2 {f : D → D → Option RV} {h1 h2 : Hd} {Q : Hd → Ev → Prop} : Wd (prim2 f h1 h2 ρ) Q = opP (rd h1 ρ) fun d => opP (rd h2 ρ) fun e => opP (f d e) fun r => Q (.v r) ρ := by
  unfold prim2
  cases rd h1 ρ with
  | none => rfl
  | some d =>
    cases rd h2 ρ with
    | none => rfl
    | some e =>
      simp only [opP_some]
      cases f d e <;> rfl
@[simp] theorem x_mUn {f : D → Option RV} {a : M Hd} : mUn f a ρ = (a ρ).bind (prim1 f) := rfl
@[simp] theorem wd_prim1 {f : D → Option RV} {h : Hd} {Q : Hd → Ev → Prop} : Wd (prim1 f h ρ) Q = opP (rd h ρ) fun d => opP (f d) fun r => Q (.v r) ρ := by
  unfold prim1
  cases rd h ρ with
  | none => rfl
  | some d =>
    simp only [opP_some]
    cases f d <;> rfl
@[simp] theorem x_mArgs_nil : mArgs [] ρ = .ok [] ρ := rfl
@[simp] theorem x_mArgs_cons {m : M Hd} {ms : List (M Hd)} : mArgs (m :: ms) ρ = (m ρ).bind fun h ρ1 => (mArgs ms ρ1).bind fun hs ρ2 => .ok (h :: hs) ρ2 := rfl
@[simp] theorem x_mPrim {f : List D → Option RV} {ms : List (M Hd)} : mPrim f ms ρ = (mArgs ms ρ).bind (primN f) := rfl
@[simp] theorem x_rds_nil : rds [] ρ = some [] := rfl
@[simp] theorem wd_primN {f : List D → Option RV} {hs : List Hd} {Q : Hd → Ev → Prop} : Wd (primN f hs ρ) Q = opP (rds hs ρ) fun ds => opP (f ds) fun r => Q (.v r) ρ := by
  unfold primN
  cases rds hs ρ with
  | none => rfl
  | some ds =>
    simp only [opP_some]
    cases f ds <;> rfl
@[simp] theorem opP_rds {h : Hd} {hs : List Hd} {Q : List D → Prop} : opP (rds (h :: hs) ρ) Q = opP (rd h ρ) fun d => opP (rds hs ρ) fun ds => Q (d :: ds) := by
  show opP (match rd h ρ, rds hs ρ with
    | some d, some ds => some (d :: ds)
    | _, _ => none) Q = _
  cases rd h ρ with
  | none => rfl
  | some d =>
    simp only [opP_some]
    cases rds hs ρ <;> rfl
@[simp] theorem x_mDisp {f : List D → Option RV} {ms : List (M Hd)} : mDisp f ms ρ = (mArgs ms ρ).bind (primZ f) := rfl
@[simp] theorem x_mTup {ms : List (M Hd)} : mTup ms = mDisp fTup ms := rfl
@[simp] theorem x_mLst {ms : List (M Hd)} : mLst ms = mDisp fLst ms := rfl
@[simp] theorem wd_primZ {f : List D → Option RV} {hs : List Hd} {Q : Hd → Ev → Prop} : Wd (primZ f hs ρ) Q = opP (fzs hs) fun ds => opP (f ds) fun r => Q (.v r) ρ := by
  unfold primZ
  cases fzs hs with
  | none => rfl
  | some ds =>
    simp only [opP_some]
    cases f ds <;> rfl
@[simp] theorem x_fzs_nil : fzs [] = some [] := rfl
@[simp] theorem opP_fzs {d : D} {hs : List Hd} {Q : List D → Prop} : opP (fzs (.v (.fz d) :: hs)) Q = opP (fzs hs) fun ds => Q (d :: ds) := by
  show opP ((fzs hs).map _) Q = _
  cases fzs hs <;> rfl
/-- a truth value decides -/
def brP (o : Option D) (a b : Prop) : Prop := match o with
  | some (.bool true) => a
  | some (.bool false) => b
  | _ => False
@[simp] theorem brP_b {c : Bool} {a b : Prop} : brP (some (.bool c)) a b = ((c = true → a) ∧ (c = false → b)) := by cases c <;> simp [brP]
theorem br_eq {h : Hd} {x y : Res α} {Q : α → Ev → Prop} : Wd (match asB h ρ with
    | some true => x
    | some false => y
    | none => .bad) Q = brP (rd h ρ) (Wd x Q) (Wd y Q) := by
  unfold asB
  cases rd h ρ with
  | none => rfl
  | some d =>
    cases d with
    | bool b => cases b <;> rfl
    | _ => rfl
@[simp] theorem wd_mIf {c : M Hd} {a b : M α} {Q : α → Ev → Prop} : Wd (mIf c a b ρ) Q = Wd (c ρ) fun h ρ1 => brP (rd h ρ1) (Wd (a ρ1) Q) (Wd (b ρ1) Q) := by
  show Wd ((c ρ).bind _) Q = _
  rw [wd_bind]
  congr 1
  funext h ρ1
  exact br_eq
@[simp] theorem x_mAnd {a b : M Hd} : mAnd a b = mIf a b (mC (.bool false)) := rfl
@[simp] theorem x_mOr {a b : M Hd} : mOr a b = mIf a (mC (.bool true)) b := rfl
@[simp] theorem x_mNot {a : M Hd} : mNot a = mIf a (mC (.bool false)) (mC (.bool true)) := rfl
@[simp] theorem x_mIfS {c : M Hd} {a b : M Fl} : mIfS c a b = mIf c a b := rfl
@[simp] theorem wd_chain {f g : D → D → Option RV} {a b c : M Hd} {Q : Hd → Ev → Prop} : Wd (mChain f g a b c ρ) Q = Wd (a ρ) fun h1 ρ1 => Wd (b ρ1) fun h2 ρ2 => Wd (prim2 f h1 h2 ρ2) fun k ρ3 => brP (rd k ρ3) (Wd (c ρ3) fun h3 ρ4 => Wd (prim2 g h2 h3 ρ4) Q) (Q (.v (.fz (.bool false))) ρ3) := by
  unfold mChain
  rw [wd_bind]; congr 1; funext h1 ρ1
  rw [wd_bind]; congr 1; funext h2 ρ2
  rw [wd_bind]; congr 1; funext k ρ3
  refine (br_eq (x := (c ρ3).bind fun h3 ρ4 => prim2 g h2 h3 ρ4) (y := .ok (.v (.fz (.bool false))) ρ3)).trans ?_
  rw [wd_bind]
  rfl
@[simp] theorem x_blk_nil : mBlk [] ρ = .ok .next ρ := rfl
@[simp] theorem wd_blk_cons {m : M Fl} {ms : List (M Fl)} {Q : Fl → Ev → Prop} : Wd (mBlk (m :: ms) ρ) Q = Wd (m ρ) fun f ρ1 => match f with
  | .next => Wd (mBlk ms ρ1) Q
  | f => Q f ρ1 := by
  show Wd ((m ρ).bind _) Q = _
  rw [wd_bind]
  congr 1
  funext f ρ1
  cases f <;> rfl
@[simp] theorem x_mFl {f : Fl} : mFl f ρ = .ok f ρ := rfl
@[simp] theorem x_mRet {m : M Hd} : mRet m ρ = (m ρ).bind retOf := rfl
@[simp] theorem x_retOf_v {r : RV} : retOf (.v r) ρ = .ok (.ret r) ρ := rfl
@[simp] theorem x_retOf_s {i : Nat} : retOf (.s i) ρ = match ρ[i]?.join with
    | some (.frz d) => .ok (.ret (.fz d)) ρ
    | some (.own xs) => .ok (.ret (.fr xs)) ρ
    | _ => .bad := rfl
@[simp] theorem x_mSet {i : Nat} {m : M Hd} : mSet i m ρ = (m ρ).bind fun h ρ1 => (esr h ρ1).bind (storeOf i) := by
  show ((m ρ).bind esr).bind _ = _
  rw [Res.assoc]
@[simp] theorem x_store_v {i : Nat} {r : RV} : storeOf i (.v r) ρ = match put i r ρ with
    | some ρ' => .ok .next ρ'
    | none => .bad := rfl
/-- no list of the caller's -/
def ni (x : Option Sl) : Bool := match x with
  | some (.io _) => false
  | _ => true
@[simp] theorem ni_none : ni none = true := rfl
@[simp] theorem ni_frz {d : D} : ni (some (.frz d)) = true := rfl
@[simp] theorem ni_own {xs : List D} : ni (some (.own xs)) = true := rfl
@[simp] theorem ni_io {xs : List D} : ni (some (.io xs)) = false := rfl
@[simp] theorem x_put {i : Nat} {r : RV} : put i r ρ = match ρ[i]? with
  | some x => if ni x = true then some (ρ.set i (some (ofRV r))) else none
  | none => none := by
  unfold put
  cases ρ[i]? with
  | none => rfl
  | some x =>
    cases x with
    | none => rfl
    | some s => cases s <;> rfl
@[simp] theorem x_of_fz {d : D} : ofRV (.fz d) = .frz d := rfl
@[simp] theorem x_of_fr {xs : List D} : ofRV (.fr xs) = .own xs := rfl
@[simp] theorem x_mPar {is : List Nat} {ms : List (M Hd)} : mPar is ms ρ = (mArgs ms ρ).bind fun hs ρ1 => match pputs is hs ρ1 with
  | some ρ2 => .ok .next ρ2
  | none => .bad := rfl
@[simp] theorem x_pputs_nil : pputs [] [] ρ = some ρ := rfl
@[simp] theorem x_pputs_cons {i : Nat} {is : List Nat} {r : RV} {hs : List Hd} : pputs (i :: is) (.v r :: hs) ρ = (put i r ρ).bind (pputs is hs) := rfl
@[simp] theorem x_mAsg {t : Tg} {m : M Hd} : mAsg t m ρ = (m ρ).bind fun h ρ1 => (esc h ρ1).bind (asgOf t) := by
  show ((m ρ).bind esc).bind _ = _
  rw [Res.assoc]
@[simp] theorem x_asgOf {t : Tg} {d : D} : asgOf t (.v (.fz d)) ρ = match asg t d ρ with
    | some ρ' => .ok .next ρ'
    | none => .bad := rfl
@[simp] theorem x_asg_n {i : Nat} {d : D} : asg (.n i) d ρ = put1 i d ρ := rfl
@[simp] theorem x_asg_t {l : List Nat} {ds : List D} : asg (.t l) (.tuple ds) ρ = puts l ds ρ := rfl
@[simp] theorem x_asg_l {l : List Nat} {ds : List D} : asg (.t l) (.list ds) ρ = puts l ds ρ := rfl
@[simp] theorem x_puts_nil : puts [] [] ρ = some ρ := rfl
@[simp] theorem x_puts_cons {i : Nat} {is : List Nat} {d : D} {ds : List D} : puts (i :: is) (d :: ds) ρ = (put1 i d ρ).bind (puts is ds) := rfl
@[simp] theorem x_put1 {i : Nat} {d : D} : put1 i d ρ = match ρ[i]? with
  | some x => if ni x = true then some (ρ.set i (some (.frz d))) else none
  | none => none := by
  unfold put1
  cases ρ[i]? with
  | none => rfl
  | some x =>
    cases x with
    | none => rfl
    | some s => cases s <;> rfl
@[simp] theorem x_mCut {m : M Hd} {lo hi : M (Option Int)} : mCut m lo hi ρ = (m ρ).bind fun h ρ1 => (lo ρ1).bind fun l ρ2 => (hi ρ2).bind fun u ρ3 => match rd h ρ3 with
  | some d => (match fCut d l u with
    | some r => .ok (.v r) ρ3
    | none => .bad)
  | none => .bad := rfl
@[simp] theorem x_optM_none : optM none ρ = .ok none ρ := rfl

/-! ### calls -/
@[simp] theorem x_mCall {n : Nat} {pf : PF} {ms : List (M Hd)} : mCall n pf ms ρ = (mArgs ms ρ).bind (callEnd n pf) := rfl
@[simp] theorem x_callEnd {n : Nat} {pf : PF} {hs : List Hd} : callEnd n pf hs ρ = match slsOf hs ρ with
  | none => .bad
  | some sls => if sls.length = n ∧ ioOnce sls = true then callBack hs sls ρ (pf sls) else .bad := rfl
@[simp] theorem x_sls_nil : slsOf [] ρ = some [] := rfl
@[simp] theorem x_sls_cons {h : Hd} {hs : List Hd} : slsOf (h :: hs) ρ = match slOf h ρ, slsOf hs ρ with
    | some s, some ss => some (s :: ss)
    | _, _ => none := rfl
@[simp] theorem x_slOf_v {d : D} : slOf (.v (.fz d)) ρ = some (.frz d) := rfl
@[simp] theorem x_slOf_s {i : Nat} : slOf (.s i) ρ = match ρ[i]?.join with
    | some (.frz d) => some (.frz d)
    | some (.own xs) => some (.io xs)
    | some (.io xs) => some (.io xs)
    | none => none := rfl
@[simp] theorem x_ioOnce_nil : ioOnce [] = true := rfl
@[simp] theorem x_ioOnce_frz {d : D} {ss : List Sl} : ioOnce (.frz d :: ss) = ioOnce ss := rfl
@[simp] theorem x_ioOnce_io {xs : List D} {ss : List Sl} : ioOnce (.io xs :: ss) = (ioAt ss).isNone := rfl
@[simp] theorem x_ioAt_nil : ioAt [] = none := rfl
@[simp] theorem x_ioAt_frz {d : D} {ss : List Sl} : ioAt (.frz d :: ss) = (ioAt ss).map (· + 1) := rfl
@[simp] theorem x_ioAt_io {xs : List D} {ss : List Sl} : ioAt (.io xs :: ss) = some 0 := rfl
/-- a call without a list that is changed -/
theorem wd_callBack {hs : List Hd} {sls : List Sl} {r : Res RV} {Q : Hd → Ev → Prop} (h : ioAt sls = none) : Wd (callBack hs sls ρ r) Q = opP (resV r) fun v => Q (.v v) ρ := by
  cases r with
  | ok v ρ' => simp [callBack, backIo, h, resV]
  | exc x ρ' => simp [callBack, backIo, h, resV]
  | bad => rfl
@[simp] theorem wd_cb0 {hs : List Hd} {r : Res RV} {Q : Hd → Ev → Prop} : Wd (callBack hs [] ρ r) Q = opP (resV r) fun v => Q (.v v) ρ := wd_callBack rfl
@[simp] theorem wd_cb1 {hs : List Hd} {a : D} {r : Res RV} {Q : Hd → Ev → Prop} : Wd (callBack hs [.frz a] ρ r) Q = opP (resV r) fun v => Q (.v v) ρ := wd_callBack rfl
@[simp] theorem wd_cb2 {hs : List Hd} {a b : D} {r : Res RV} {Q : Hd → Ev → Prop} : Wd (callBack hs [.frz a, .frz b] ρ r) Q = opP (resV r) fun v => Q (.v v) ρ := wd_callBack rfl
@[simp] theorem wd_cb3 {hs : List Hd} {a b c : D} {r : Res RV} {Q : Hd → Ev → Prop} : Wd (callBack hs [.frz a, .frz b, .frz c] ρ r) Q = opP (resV r) fun v => Q (.v v) ρ := wd_callBack rfl
/-- a def's answer, from its body -/
theorem pf_ans {n : Nat} {m : M Fl} {sls : List Sl} {v : RV} (h : Wd (m (sls.map some ++ List.replicate (n - sls.length) none)) fun f _ => f = .ret v) : resV (pfOf n m sls) = some v := by
  obtain ⟨f, ρ, e, rfl⟩ := h.get
  unfold pfOf
  rw [e]; rfl
end
end Pu
set_option Elab.async false
set_option linter.all false
set_option maxRecDepth 100000
set_option maxHeartbeats 1000000
/-! Px2: running comprehensions and loops. -/
namespace Pu
open PySem L2
section
variable {ρ : Ev}
@[simp] theorem x_mSeq {m : M Hd} : mSeq m ρ = (m ρ).bind fun h ρ1 => (esc h ρ1).bind seqOf := by
  show ((m ρ).bind esc).bind _ = _
  rw [Res.assoc]
@[simp] theorem x_seq_l {xs : List D} : seqOf (.v (.fz (.list xs))) ρ = .ok xs ρ := rfl
@[simp] theorem x_seq_t {xs : List D} : seqOf (.v (.fz (.tuple xs))) ρ = .ok xs ρ := rfl
@[simp] theorem wd_mWalk {f : List D → Option (List D)} {ms : List (M Hd)} {Q : List D → Ev → Prop} : Wd (mWalk f ms ρ) Q = Wd (mArgs ms ρ) fun hs ρ1 => opP (fzs hs) fun ds => opP (f ds) fun l => Q l ρ1 := by
  unfold mWalk
  rw [wd_bind]
  congr 1
  funext hs ρ1
  cases fzs hs with
  | none => rfl
  | some ds =>
    simp only [opP_some]
    cases f ds <;> rfl
@[simp] theorem x_lstAt {k : Nat} : lstAt k ρ = match ρ[k]? with
  | some (some (.own xs)) => some xs
  | some (some (.io xs)) => some xs
  | _ => none := rfl
@[simp] theorem x_setAt {k : Nat} {ys : List D} : setAt k ys ρ = match ρ[k]? with
  | some (some (.io _)) => ρ.set k (some (.io ys))
  | _ => ρ.set k (some (.own ys)) := rfl
@[simp] theorem x_mStore {k : Nat} {mi me : M Hd} : mStore k mi me ρ = (me ρ).bind fun h ρ0 => (esc h ρ0).bind fun hv ρ1 => match lstAt k ρ1 with
  | none => .bad
  | some _ => (mi ρ1).bind fun hi ρ2 => match kept hv, rd hi ρ2, lstAt k ρ2 with
    | some d, some (.int i), some xs => (match ixN xs.length i with
      | some j => .ok .next (setAt k (xs.set j d) ρ2)
      | none => .bad)
    | _, _, _ => .bad := by
  show ((me ρ).bind esc).bind _ = _
  exact (Res.assoc (me ρ) esc _).trans rfl
@[simp] theorem x_mApp {k : Nat} {me : M Hd} : mApp k me ρ = match lstAt k ρ with
  | none => .bad
  | some _ => (me ρ).bind fun h ρ0 => (esc h ρ0).bind fun hv ρ1 => match kept hv, lstAt k ρ1 with
    | some d, some xs => if xs.length < lim then .ok .next (setAt k (xs ++ [d]) ρ1) else .bad
    | _, _ => .bad := by
  unfold mApp mEsc
  cases lstAt k ρ with
  | none => rfl
  | some _ =>
    dsimp only
    exact (Res.assoc (me ρ) esc _).trans rfl
@[simp] theorem x_mDrop {m : M Hd} : mDrop m ρ = (m ρ).bind fun _ ρ1 => .ok .next ρ1 := rfl
/-- one turn of a comprehension -/
def elem (tg : Tg) (cond elt : M Hd) (d : D) : M (Option D) := fun ρ => match asg tg d ρ with
  | none => .bad
  | some ρ1 => (cond ρ1).bind fun hb ρ2 => match asB hb ρ2 with
    | some true => (mEsc elt ρ2).bind fun h ρ3 => match kept h with
      | some e => .ok (some e) ρ3
      | none => .bad
    | some false => .ok none ρ2
    | none => .bad
@[simp] theorem wd_elem {tg : Tg} {cond elt : M Hd} {d : D} {Q : Option D → Ev → Prop} : Wd (elem tg cond elt d ρ) Q = opP (asg tg d ρ) fun ρ1 => Wd (cond ρ1) fun hb ρ2 => brP (rd hb ρ2) (Wd (elt ρ2) fun h ρ3 => Wd (esc h ρ3) fun h ρ4 => opP (kept h) fun e => Q (some e) ρ4) (Q none ρ2) := by
  unfold elem
  cases asg tg d ρ with
  | none => rfl
  | some ρ1 =>
    simp only [opP_some]
    rw [wd_bind]
    congr 1
    funext hb ρ2
    refine (br_eq (x := (mEsc elt ρ2).bind fun h ρ3 => match kept h with
      | some e => .ok (some e) ρ3
      | none => .bad) (y := .ok none ρ2)).trans ?_
    rw [wd_bind, x_mEsc, wd_bind]
    congr 1
    congr 1
    funext h ρ3
    congr 1
    funext h ρ4
    cases kept h <;> rfl
@[simp] theorem x_kept {d : D} : kept (.v (.fz d)) = some d := rfl
theorem compRun_cons {vs : List Nat} {tg : Tg} {cond elt : M Hd} {d : D} {ds : List D} : compRun vs tg cond elt (d :: ds) ρ = (elem tg cond elt d ρ).bind fun o ρ3 => (compRun vs tg cond elt ds (wipeE vs ρ3)).bind fun es ρ4 => .ok (o.toList ++ es) ρ4 := by
  show (match asg tg d ρ with
    | none => (Res.bad : Res (List D))
    | some ρ1 => (cond ρ1).bind fun hb ρ2 => match asB hb ρ2 with
      | some true => (mEsc elt ρ2).bind fun h ρ3 => match kept h with
        | some e => (compRun vs tg cond elt ds (wipeE vs ρ3)).bind fun es ρ4 => .ok (e :: es) ρ4
        | none => .bad
      | some false => compRun vs tg cond elt ds (wipeE vs ρ2)
      | none => .bad) = _
  unfold elem
  cases asg tg d ρ with
  | none => rfl
  | some ρ1 =>
    dsimp only
    cases cond ρ1 with
    | bad => rfl
    | exc x ρ2 => rfl
    | ok hb ρ2 =>
      dsimp only [bind_ok]
      cases asB hb ρ2 with
      | none => rfl
      | some b =>
        cases b with
        | false =>
          dsimp only [bind_ok]
          cases compRun vs tg cond elt ds (wipeE vs ρ2) <;> rfl
        | true =>
          dsimp only
          cases mEsc elt ρ2 with
          | bad => rfl
          | exc x ρ3 => rfl
          | ok h ρ3 =>
            dsimp only [bind_ok]
            cases kept h <;> rfl
/-- a comprehension with an invariant: I k acc ρ behind k turns -/
theorem compRun_inv {vs : List Nat} {tg : Tg} {cond elt : M Hd} (I : List D → List D → Ev → Prop) : ∀ {ds : List D} {dn : List D} {acc : List D} {ρ : Ev}, I dn acc ρ → (∀ dn' d rest acc ρ, dn ++ ds = dn' ++ d :: rest → I dn' acc ρ → Wd (elem tg cond elt d ρ) fun o ρ3 => I (dn' ++ [d]) (acc ++ o.toList) (wipeE vs ρ3)) →
    Wd (compRun vs tg cond elt ds ρ) fun es ρ' => I (dn ++ ds) (acc ++ es) ρ'
  | [], dn, acc, ρ, h, _ => by
    show I (dn ++ []) (acc ++ []) ρ
    rw [List.append_nil, List.append_nil]; exact h
  | d :: ds, dn, acc, ρ, h, st => by
    rw [compRun_cons, wd_bind]
    refine (st dn d ds acc ρ rfl h).imp fun o ρ3 h3 => ?_
    rw [wd_bind]
    refine (compRun_inv I (ds := ds) h3 fun dn' d' rest acc' ρ' e h' => st dn' d' rest acc' ρ' (by rw [← e, List.append_assoc]; rfl) h').imp fun es ρ4 h4 => ?_
    show I (dn ++ d :: ds) (acc ++ (o.toList ++ es)) ρ4
    rw [← List.append_assoc]
    rw [List.append_assoc] at h4
    exact h4
theorem wd_comp {vs : List Nat} {mi : M (List D)} {tg : Tg} {cond elt : M Hd} {Q : Hd → Ev → Prop} (I : List D → List D → Ev → Prop) (h : Wd (mi ρ) fun ds ρ1 => ds.length ≤ lim ∧ I [] [] (wipeE vs ρ1) ∧ (∀ dn d rest acc ρ, ds = dn ++ d :: rest → I dn acc ρ → Wd (elem tg cond elt d ρ) fun o ρ3 => I (dn ++ [d]) (acc ++ o.toList) (wipeE vs ρ3)) ∧
      ∀ es ρ', I ds es ρ' → Q (.v (.fr es)) (backE vs ρ1 ρ')) : Wd (mComp vs mi tg cond elt ρ) Q := by
  unfold mComp
  rw [wd_bind]
  refine h.imp fun ds ρ1 ⟨h1, h2, h3, h4⟩ => ?_
  rw [if_pos h1, wd_bind]
  have z := compRun_inv (tg := tg) (cond := cond) (elt := elt) (vs := vs) I (ds := ds) (dn := []) h2 (fun dn' d rest acc ρ e => h3 dn' d rest acc ρ e)
  obtain ⟨es, ρ', e, q⟩ := z.get
  rw [e]
  exact h4 es ρ' (by simpa using q)
theorem back_wipe {vs : List Nat} : backE vs ρ (wipeE vs ρ) = ρ := by
  refine List.ext_getElem? fun i => ?_
  unfold backE wipeE
  rw [over_get, over_get, Nat.zero_add]
  cases ρ[i]? with
  | none => rfl
  | some x =>
    simp only [Option.map_some]
    cases vs.contains i <;> rfl
/-- a comprehension that changes nothing -/
theorem wd_compP {vs : List Nat} {mi : M (List D)} {tg : Tg} {cond elt : M Hd} {Q : Hd → Ev → Prop} (g : D → Option D) (h : Wd (mi ρ) fun ds ρ1 => ds.length ≤ lim ∧ (∀ d ∈ ds, Wd (elem tg cond elt d (wipeE vs ρ1)) fun o ρ3 => o = g d ∧ wipeE vs ρ3 = wipeE vs ρ1) ∧ Q (.v (.fr (ds.filterMap g))) ρ1) : Wd (mComp vs mi tg cond elt ρ) Q := by
  obtain ⟨ds, ρ1, e, h1, h2, h3⟩ := h.get
  refine wd_comp (fun dn acc ρ' => acc = dn.filterMap g ∧ ρ' = wipeE vs ρ1) ?_
  rw [e]
  refine ⟨h1, ⟨rfl, rfl⟩, fun dn d rest acc ρ' ed ⟨ea, er⟩ => ?_, fun es ρ' ⟨ee, er⟩ => ?_⟩
  · subst ea; subst er
    refine (h2 d (by rw [ed]; simp)).imp fun o ρ3 ⟨eo, e3⟩ => ⟨?_, e3⟩
    rw [List.filterMap_append, eo]
    simp [List.filterMap_cons]
    cases g d <;> rfl
  · subst ee; subst er
    rw [back_wipe]
    exact h3
/-- the same, without a condition -/
theorem wd_compM {vs : List Nat} {mi : M (List D)} {tg : Tg} {elt : M Hd} {Q : Hd → Ev → Prop} (g : D → D) (h : Wd (mi ρ) fun ds ρ1 => ds.length ≤ lim ∧ (∀ d ∈ ds, Wd (elem tg (mC (.bool true)) elt d (wipeE vs ρ1)) fun o ρ3 => o = some (g d) ∧ wipeE vs ρ3 = wipeE vs ρ1) ∧ Q (.v (.fr (ds.map g))) ρ1) : Wd (mComp vs mi tg (mC (.bool true)) elt ρ) Q := by
  refine wd_compP (fun d => some (g d)) (h.imp fun ds ρ1 ⟨h1, h2, h3⟩ => ⟨h1, h2, ?_⟩)
  rw [show ds.filterMap (fun d => some (g d)) = ds.map g from List.filterMap_eq_map' ▸ rfl]
  exact h3
theorem asBools_fn {α : Type} (b : α → Bool) : ∀ l : List α, asBools (l.map fun x => PyData.bool (b x)) = some (l.map b)
  | [] => rfl
  | x :: l => by
    show (asBools (l.map fun x => PyData.bool (b x))).map (b x :: ·) = _
    rw [asBools_fn b l]
    rfl
/-- all([.. for ..]) -/
theorem wd_all {vs : List Nat} {mi : M (List D)} {tg : Tg} {elt : M Hd} {Q : Hd → Ev → Prop} (b : D → Bool) (h : Wd (mi ρ) fun ds ρ1 => ds.length ≤ lim ∧ (∀ d ∈ ds, Wd (elem tg (mC (.bool true)) elt d (wipeE vs ρ1)) fun o ρ3 => o = some (.bool (b d)) ∧ wipeE vs ρ3 = wipeE vs ρ1) ∧ Q (.v (.fz (.bool (ds.all b)))) ρ1) :
    Wd (mPrim fAll [mComp vs mi tg (mC (.bool true)) elt] ρ) Q := by
  rw [x_mPrim, wd_bind, x_mArgs_cons, wd_bind]
  refine wd_compM (fun d => .bool (b d)) (h.imp fun ds ρ1 ⟨h1, h2, h3⟩ => ⟨h1, h2, ?_⟩)
  simp only [x_mArgs_nil, bind_ok, wd_ok, wd_primN, opP_rds, x_rd_v, x_fr, opP_some, x_rds_nil]
  show opP ((asBools (ds.map fun d => PyData.bool (b d))).map _) _
  rw [asBools_fn]
  show Q (.v (.fz (.bool ((ds.map b).all id)))) ρ1
  rw [List.all_map]
  exact h3
/-- [.. for ..] of truth values, for all(..) -/
theorem wd_compB {vs : List Nat} {mi : M (List D)} {tg : Tg} {elt : M Hd} {Q : Hd → Ev → Prop} (b : D → Bool) (h : Wd (mi ρ) fun ds ρ1 => ds.length ≤ lim ∧ (∀ d ∈ ds, Wd (elem tg (mC (.bool true)) elt d (wipeE vs ρ1)) fun o ρ3 => o = some (.bool (b d)) ∧ wipeE vs ρ3 = wipeE vs ρ1) ∧
    ∀ l, fAll [.list l] = some (.fz (.bool (ds.all b))) → Q (.v (.fr l)) ρ1) : Wd (mComp vs mi tg (mC (.bool true)) elt ρ) Q := by
  refine wd_compM (fun d => .bool (b d)) (h.imp fun ds ρ1 ⟨h1, h2, h3⟩ => ⟨h1, h2, h3 _ ?_⟩)
  show (asBools (ds.map fun d => PyData.bool (b d))).map _ = _
  rw [asBools_fn]
  show some (RV.fz (.bool ((ds.map b).all id))) = _
  rw [List.all_map]
  rfl
theorem pf_ret {n : Nat} {m : M Fl} {sls : List Sl} {r : RV} {ρ' : Ev} (h : m (sls.map some ++ List.replicate (n - sls.length) none) = .ok (.ret r) ρ') : pfOf n m sls = .ok r ρ' := by
  unfold pfOf
  rw [h]
/-- for -/
theorem forRun_inv {tg : Tg} {body : M Fl} {Q : Fl → Ev → Prop} (I : List D → Ev → Prop) : ∀ {ds dn : List D} {ρ : Ev}, I dn ρ → (∀ dn' d rest ρ, dn ++ ds = dn' ++ d :: rest → I dn' ρ → opP (asg tg d ρ) fun ρ1 => Wd (body ρ1) fun f ρ2 => match f with
      | .next => I (dn' ++ [d]) ρ2
      | .cont => I (dn' ++ [d]) ρ2
      | .brk => Q .next ρ2
      | .ret r => Q (.ret r) ρ2) → (∀ ρ', I (dn ++ ds) ρ' → Q .next ρ') → Wd (forRun tg body ds ρ) Q
  | [], dn, ρ, h, _, q => q ρ (by rw [List.append_nil]; exact h)
  | d :: ds, dn, ρ, h, st, q => by
    have z := st dn d ds ρ rfl h
    unfold forRun
    cases e : asg tg d ρ with
    | none => rw [e] at z; exact z.elim
    | some ρ1 =>
      rw [e] at z
      dsimp only
      rw [wd_bind]
      refine Wd.imp z fun f ρ2 z2 => ?_
      have go : I (dn ++ [d]) ρ2 → Wd (forRun tg body ds ρ2) Q := fun h2 => forRun_inv I (ds := ds) (dn := dn ++ [d]) h2 (fun dn' d' rest ρ' e' => st dn' d' rest ρ' (by rw [← e', List.append_assoc]; rfl)) fun ρ' h' => q ρ' (by rw [List.append_assoc] at h'; exact h')
      cases f with
      | next => exact go z2
      | cont => exact go z2
      | brk => exact z2
      | ret r => exact z2
theorem wd_for {mi : M (List D)} {tg : Tg} {body : M Fl} {Q : Fl → Ev → Prop} (I : List D → Ev → Prop) (h : Wd (mi ρ) fun ds ρ1 => I [] ρ1 ∧ (∀ dn d rest ρ, ds = dn ++ d :: rest → I dn ρ → opP (asg tg d ρ) fun ρ1 => Wd (body ρ1) fun f ρ2 => match f with
      | .next => I (dn ++ [d]) ρ2
      | .cont => I (dn ++ [d]) ρ2
      | .brk => Q .next ρ2
      | .ret r => Q (.ret r) ρ2) ∧ ∀ ρ', I ds ρ' → Q .next ρ') : Wd (mFor mi tg body ρ) Q := by
  unfold mFor
  rw [wd_bind]
  exact h.imp fun ds ρ1 ⟨h1, h2, h3⟩ => forRun_inv I (dn := []) h1 (fun dn d rest ρ e => h2 dn d rest ρ e) fun ρ' h => h3 ρ' h
/-- the same, where what is walked is known -/
theorem wd_forR {mi : M (List D)} {tg : Tg} {body : M Fl} {Q : Fl → Ev → Prop} {ρ1 : Ev} (ds : List D) (I : List D → Ev → Prop) (hm : Wd (mi ρ) fun a ρ' => a = ds ∧ ρ' = ρ1) (h0 : I [] ρ1) (hs : ∀ dn d rest ρ, ds = dn ++ d :: rest → I dn ρ → opP (asg tg d ρ) fun ρ1 => Wd (body ρ1) fun f ρ2 => match f with
      | .next => I (dn ++ [d]) ρ2
      | .cont => I (dn ++ [d]) ρ2
      | .brk => Q .next ρ2
      | .ret r => Q (.ret r) ρ2) (hq : ∀ ρ', I ds ρ' → Q .next ρ') : Wd (mFor mi tg body ρ) Q := by
  refine wd_for I (hm.imp fun a ρ' ⟨e1, e2⟩ => ?_)
  subst e1; subst e2
  exact ⟨h0, hs, hq⟩
/-- the same, where no turn leaves the loop -/
theorem wd_forN {mi : M (List D)} {tg : Tg} {body : M Fl} {Q : Fl → Ev → Prop} {ρ1 : Ev} (ds : List D) (I : List D → Ev → Prop) (hm : Wd (mi ρ) fun a ρ' => a = ds ∧ ρ' = ρ1) (h0 : I [] ρ1) (hs : ∀ dn d rest ρ, ds = dn ++ d :: rest → I dn ρ → opP (asg tg d ρ) fun ρ1 => Wd (body ρ1) fun f ρ2 => f = .next ∧ I (dn ++ [d]) ρ2)
    (hq : ∀ ρ', I ds ρ' → Q .next ρ') : Wd (mFor mi tg body ρ) Q := by
  refine wd_forR ds I hm h0 (fun dn d rest ρ e h => ?_) hq
  have z := hs dn d rest ρ e h
  cases ea : asg tg d ρ with
  | none => rw [ea] at z; exact z.elim
  | some ρ1 =>
    rw [ea] at z
    refine Wd.imp z fun f ρ2 ⟨e1, h1⟩ => ?_
    subst e1
    exact h1
theorem wd_compR {vs : List Nat} {mi : M (List D)} {tg : Tg} {cond elt : M Hd} {Q : Hd → Ev → Prop} {ρ1 : Ev} (ds : List D) (I : List D → List D → Ev → Prop) (hm : Wd (mi ρ) fun a ρ' => a = ds ∧ ρ' = ρ1) (hl : ds.length ≤ lim) (h0 : I [] [] (wipeE vs ρ1))
    (hs : ∀ dn d rest acc ρ, ds = dn ++ d :: rest → I dn acc ρ → Wd (elem tg cond elt d ρ) fun o ρ3 => I (dn ++ [d]) (acc ++ o.toList) (wipeE vs ρ3)) (hq : ∀ es ρ', I ds es ρ' → Q (.v (.fr es)) (backE vs ρ1 ρ')) : Wd (mComp vs mi tg cond elt ρ) Q := by
  refine wd_comp I (hm.imp fun a ρ' ⟨e1, e2⟩ => ?_)
  subst e1; subst e2
  exact ⟨hl, h0, hs, hq⟩
theorem wd_compPR {vs : List Nat} {mi : M (List D)} {tg : Tg} {cond elt : M Hd} {Q : Hd → Ev → Prop} {ρ1 : Ev} (ds : List D) (g : D → Option D) (hm : Wd (mi ρ) fun a ρ' => a = ds ∧ ρ' = ρ1) (hl : ds.length ≤ lim)
    (hs : ∀ d ∈ ds, Wd (elem tg cond elt d (wipeE vs ρ1)) fun o ρ3 => o = g d ∧ wipeE vs ρ3 = wipeE vs ρ1) (hq : Q (.v (.fr (ds.filterMap g))) ρ1) : Wd (mComp vs mi tg cond elt ρ) Q := by
  refine wd_compP g (hm.imp fun a ρ' ⟨e1, e2⟩ => ?_)
  subst e1; subst e2
  exact ⟨hl, hs, hq⟩
end
end Pu
set_option Elab.async false
set_option linter.all false
set_option maxRecDepth 100000
set_option maxHeartbeats 1000000
/-! Px3: facts of the operations on data. -/
namespace Pu
open PySem L2
@[simp] theorem isa_int {d : D} : fIsa "int" d = some (.fz (.bool d.isInt)) := rfl
@[simp] theorem isa_bool {d : D} : fIsa "bool" d = some (.fz (.bool d.isBool)) := rfl
@[simp] theorem isa_str {d : D} : fIsa "str" d = some (.fz (.bool d.isStr)) := rfl
@[simp] theorem isa_tuple {d : D} : fIsa "tuple" d = some (.fz (.bool d.isTuple)) := rfl
@[simp] theorem isa_list {d : D} : fIsa "list" d = some (.fz (.bool d.isList)) := rfl
@[simp] theorem isInt_int {i : Int} : PyData.isInt (.int i) = true := rfl
@[simp] theorem isInt_bool {b : Bool} : PyData.isInt (.bool b) = true := rfl
@[simp] theorem isInt_none : PyData.isInt .none = false := rfl
@[simp] theorem isInt_str {x : Str} : PyData.isInt (.str x) = false := rfl
@[simp] theorem isInt_list {x : List D} : PyData.isInt (.list x) = false := rfl
@[simp] theorem isInt_tuple {x : List D} : PyData.isInt (.tuple x) = false := rfl
@[simp] theorem isInt_dict {x} : PyData.isInt (.dict x) = false := rfl
@[simp] theorem isBool_int {i : Int} : PyData.isBool (.int i) = false := rfl
@[simp] theorem isBool_bool {b : Bool} : PyData.isBool (.bool b) = true := rfl
@[simp] theorem isTuple_tuple {x : List D} : PyData.isTuple (.tuple x) = true := rfl
@[simp] theorem isTuple_list {x : List D} : PyData.isTuple (.list x) = false := rfl
@[simp] theorem isTuple_int {i : Int} : PyData.isTuple (.int i) = false := rfl
@[simp] theorem isTuple_bool {b : Bool} : PyData.isTuple (.bool b) = false := rfl
@[simp] theorem isTuple_none : PyData.isTuple .none = false := rfl
@[simp] theorem isTuple_str {x : Str} : PyData.isTuple (.str x) = false := rfl
@[simp] theorem isTuple_dict {x} : PyData.isTuple (.dict x) = false := rfl
@[simp] theorem le_ii {i j : Int} : fLe (.int i) (.int j) = some (.fz (.bool (decide (i ≤ j)))) := rfl
@[simp] theorem lt_ii {i j : Int} : fLt (.int i) (.int j) = some (.fz (.bool (decide (i < j)))) := rfl
@[simp] theorem ge_ii {i j : Int} : fGe (.int i) (.int j) = some (.fz (.bool (decide (j ≤ i)))) := rfl
@[simp] theorem gt_ii {i j : Int} : fGt (.int i) (.int j) = some (.fz (.bool (decide (j < i)))) := rfl
@[simp] theorem add_ii {i j : Int} : fAdd (.int i) (.int j) = some (.fz (.int (i + j))) := rfl
@[simp] theorem sub_ii {i j : Int} : fSub (.int i) (.int j) = some (.fz (.int (i - j))) := rfl
@[simp] theorem neg_i {i : Int} : fNeg (.int i) = some (.fz (.int (-i))) := rfl
@[simp] theorem eq_ii {i j : Int} : fEq (.int i) (.int j) = some (.fz (.bool (i == j))) := rfl
@[simp] theorem ne_ii {i j : Int} : fNe (.int i) (.int j) = some (.fz (.bool (!(i == j)))) := rfl
@[simp] theorem len_t {xs : List D} : fLen [.tuple xs] = some (.fz (.int xs.length)) := rfl
@[simp] theorem len_l {xs : List D} : fLen [.list xs] = some (.fz (.int xs.length)) := rfl
@[simp] theorem list_t {xs : List D} : fList [.tuple xs] = some (.fr xs) := rfl
@[simp] theorem list_l {xs : List D} : fList [.list xs] = some (.fr xs) := rfl
@[simp] theorem tuple_t {xs : List D} : fTuple [.tuple xs] = some (.fz (.tuple xs)) := rfl
@[simp] theorem tuple_l {xs : List D} : fTuple [.list xs] = some (.fz (.tuple xs)) := rfl
@[simp] theorem int_i {i : Int} : fInt [.int i] = some (.fz (.int i)) := rfl
@[simp] theorem zip_tt {xs ys : List D} : fZip [.tuple xs, .tuple ys] = some (pairs xs ys) := rfl
@[simp] theorem zip_ll {xs ys : List D} : fZip [.list xs, .list ys] = some (pairs xs ys) := rfl
@[simp] theorem cut_t {xs : List D} {lo hi : Option Int} : fCut (.tuple xs) lo hi = some (.fz (.tuple (cutD xs lo hi))) := rfl
@[simp] theorem cut_l {xs : List D} {lo hi : Option Int} : fCut (.list xs) lo hi = some (.fr (cutD xs lo hi)) := rfl
@[simp] theorem rev_t {xs : List D} : fRev (.tuple xs) = some (.fz (.tuple xs.reverse)) := rfl
@[simp] theorem item_t {xs : List D} {i : Int} : fItem (.tuple xs) (.int i) = (atI xs i).map .fz := rfl
@[simp] theorem item_l {xs : List D} {i : Int} : fItem (.list xs) (.int i) = (atI xs i).map .fz := rfl
@[simp] theorem is_none {d : D} : fIs false d .none = some (.fz (.bool (isNon d))) := by show some (RV.fz (.bool (false != isNon d))) = _; cases isNon d <;> rfl
theorem atI_of {α : Type} {xs : List α} {i : Nat} : atI xs (i : Int) = xs[i]? := by
  unfold atI ixN
  rw [if_pos (by omega)]
  by_cases h : i < xs.length
  · rw [if_pos (by omega)]
    show xs[(i : Int).toNat]? = _
    rw [Int.toNat_natCast]
  · rw [if_neg (by omega), List.getElem?_eq_none (by omega)]
    rfl
@[simp] theorem atI_0 {α : Type} {x : α} {xs : List α} : atI (x :: xs) 0 = some x := atI_of (i := 0)
@[simp] theorem atI_1 {α : Type} {x y : α} {xs : List α} : atI (x :: y :: xs) 1 = some y := atI_of (i := 1)
@[simp] theorem atI_2 {α : Type} {x y z : α} {xs : List α} : atI (x :: y :: z :: xs) 2 = some z := atI_of (i := 2)
@[simp] theorem atI_3 {α : Type} {x y z u : α} {xs : List α} : atI (x :: y :: z :: u :: xs) 3 = some u := atI_of (i := 3)
theorem atI_toNat {α : Type} {xs : List α} {i : Int} (h : 0 ≤ i) : atI xs i = xs[i.toNat]? := by
  have := atI_of (xs := xs) (i := i.toNat)
  rwa [Int.toNat_of_nonneg h] at this
theorem cutD_nat {α : Type} {xs : List α} {lo hi : Nat} : cutD xs (some (lo : Int)) (some (hi : Int)) = (xs.drop lo).take (hi - lo) := by
  unfold cutD
  rw [HT.sIx_nat, HT.sIx_nat]
  by_cases h : lo ≤ xs.length
  · rw [Nat.min_eq_left h]
    by_cases h2 : hi ≤ xs.length
    · rw [Nat.min_eq_left h2]
    · rw [Nat.min_eq_right (by omega), List.take_of_length_le (by simp), List.take_of_length_le (by simp; omega)]
  · rw [Nat.min_eq_right (Nat.le_of_lt (Nat.lt_of_not_le h)), List.drop_eq_nil_of_le (Nat.le_refl _), List.drop_eq_nil_of_le (Nat.le_of_lt (Nat.lt_of_not_le h))]
    simp
theorem cutD_to {α : Type} {xs : List α} {hi : Nat} : cutD xs none (some (hi : Int)) = xs.take hi := by
  unfold cutD
  rw [HT.sIx_nat, HT.sIx_none, List.drop_zero, Nat.sub_zero]
  by_cases h2 : hi ≤ xs.length
  · rw [Nat.min_eq_left h2]
  · rw [Nat.min_eq_right (by omega), List.take_of_length_le (Nat.le_refl _), List.take_of_length_le (by omega)]
theorem cutD_from {α : Type} {xs : List α} {lo : Nat} : cutD xs (some (lo : Int)) none = xs.drop lo := by
  unfold cutD
  rw [HT.sIx_nat, HT.sIx_none]
  by_cases h : lo ≤ xs.length
  · rw [Nat.min_eq_left h, List.take_of_length_le (by simp)]
  · rw [Nat.min_eq_right (by omega), List.drop_eq_nil_of_le (Nat.le_refl _), List.drop_eq_nil_of_le (by omega)]
    simp
/-! ### comparing data -/
theorem dataLt_trans {a b c : D} (h1 : PySem.W.dataLt a b = true) (h2 : PySem.W.dataLt b c = true) : PySem.W.dataLt a c = true := (PyProof.Rows.listOrd PyProof.Rows.itemOrd).trans _ _ _ h1 h2
theorem dataLt_irr {a : D} : PySem.W.dataLt a a = false := (PyProof.Rows.listOrd PyProof.Rows.itemOrd).irrefl _
theorem dataLt_tri {a b : D} (h1 : PySem.W.dataLt a b = false) (h2 : PySem.W.dataLt b a = false) : PySem.W.keyToks a = PySem.W.keyToks b := (PyProof.Rows.listOrd PyProof.Rows.itemOrd).total _ _ h1 h2
mutual
/-- whole numbers, and tuples of such -/
def itree : D → Bool
  | .int _ => true
  | .tuple xs => itrees xs
  | _ => false
def itrees : List D → Bool
  | [] => true
  | x :: xs => itree x && itrees xs
end
mutual
theorem toks_inj : ∀ (d e : D) (l m : List (Int ⊕ List Nat)), itree d = true → itree e = true → PySem.W.alike d e = true → PySem.W.keyToks d ++ l = PySem.W.keyToks e ++ m → d = e ∧ l = m
  | .int i, e, l, m, _, he, ha, h => by
    cases e with
    | int j =>
      rw [PySem.W.keyToks, PySem.W.keyToks] at h
      simp only [List.cons_append, List.nil_append, List.cons.injEq, Sum.inl.injEq] at h
      exact ⟨by rw [h.1], h.2⟩
    | tuple ys => rw [PySem.W.alike] at ha <;> first | cases ha | (intros; simp_all)
    | _ => rw [itree] at he <;> first | cases he | (intros; simp_all)
  | .tuple xs, e, l, m, hd, he, ha, h => by
    cases e with
    | tuple ys =>
      rw [PySem.W.keyToks, PySem.W.keyToks] at h
      rw [itree] at hd he
      rw [PySem.W.alike] at ha
      obtain ⟨h1, h2⟩ := toksAll_inj xs ys l m hd he ha h
      exact ⟨by rw [h1], h2⟩
    | int j => rw [PySem.W.alike] at ha <;> first | cases ha | (intros; simp_all)
    | _ => rw [itree] at he <;> first | cases he | (intros; simp_all)
  | .none, _, _, _, hd, _, _, _ => by rw [itree] at hd <;> first | cases hd | (intros; simp_all)
  | .bool _, _, _, _, hd, _, _, _ => by rw [itree] at hd <;> first | cases hd | (intros; simp_all)
  | .str _, _, _, _, hd, _, _, _ => by rw [itree] at hd <;> first | cases hd | (intros; simp_all)
  | .list _, _, _, _, hd, _, _, _ => by rw [itree] at hd <;> first | cases hd | (intros; simp_all)
  | .dict _, _, _, _, hd, _, _, _ => by rw [itree] at hd <;> first | cases hd | (intros; simp_all)
theorem toksAll_inj : ∀ (xs ys : List D) (l m : List (Int ⊕ List Nat)), itrees xs = true → itrees ys = true → PySem.W.alikeAll xs ys = true → PySem.W.keyToksAll xs ++ l = PySem.W.keyToksAll ys ++ m → xs = ys ∧ l = m
  | [], [], l, m, _, _, _, h => by
    rw [PySem.W.keyToksAll] at h
    simpa using h
  | [], y :: ys, l, m, _, _, _, h => by
    rw [PySem.W.keyToksAll, PySem.W.keyToksAll] at h
    simp at h
  | x :: xs, [], l, m, _, _, _, h => by
    rw [PySem.W.keyToksAll, PySem.W.keyToksAll] at h
    simp at h
  | x :: xs, y :: ys, l, m, hd, he, ha, h => by
    rw [PySem.W.keyToksAll, PySem.W.keyToksAll] at h
    rw [itrees, Bool.and_eq_true] at hd he
    rw [PySem.W.alikeAll, Bool.and_eq_true] at ha
    simp only [List.cons_append, List.append_assoc, List.cons.injEq, true_and] at h
    obtain ⟨h1, h2⟩ := toks_inj x y _ _ hd.1 he.1 ha.1 h
    obtain ⟨h3, h4⟩ := toksAll_inj xs ys l m hd.2 he.2 ha.2 h2
    exact ⟨by rw [h1, h3], h4⟩
end
/-- data of whole numbers are ordered -/
theorem itree_lt {d e : D} (hd : itree d = true) (he : itree e = true) (ha : PySem.W.alike d e = true) (h : PySem.W.dataLt e d = false) (n : d ≠ e) : PySem.W.dataLt d e = true := by
  cases q : PySem.W.dataLt d e with
  | true => rfl
  | false =>
    have z := dataLt_tri q h
    exact absurd (toks_inj d e [] [] hd he ha (by rw [z])).1 n
theorem itrees_ints : ∀ {ns : List Int}, itrees (ns.map PyData.int) = true
  | [] => by rw [List.map_nil, itrees]
  | n :: ns => by rw [List.map_cons, itrees, itree, itrees_ints]; rfl
theorem alike_ints : ∀ {ns ms : List Int}, PySem.W.alikeAll (ns.map PyData.int) (ms.map PyData.int) = true
  | [], [] => by simp [PySem.W.alikeAll]
  | [], _ :: _ => by simp [PySem.W.alikeAll]
  | _ :: _, [] => by simp [PySem.W.alikeAll]
  | n :: ns, m :: ms => by
    rw [List.map_cons, List.map_cons, PySem.W.alikeAll, alike_ints, PySem.W.alike]; rfl
theorem depth_ints : ∀ {ns : List Int}, PyData.depthAll (ns.map PyData.int) = 0
  | [] => by simp [PyData.depthAll]
  | n :: ns => by rw [List.map_cons, PyData.depthAll, PyData.depth, depth_ints]; rfl
theorem eqv_ints : ∀ {ns ms : List Int}, PyData.eqvAll (ns.map PyData.int) (ms.map PyData.int) = decide (ns = ms)
  | [], [] => by simp [PyData.eqvAll]
  | [], _ :: _ => by simp [PyData.eqvAll]
  | _ :: _, [] => by simp [PyData.eqvAll]
  | n :: ns, m :: ms => by
    rw [List.map_cons, List.map_cons, PyData.eqvAll, eqv_ints, PyData.eqv]
    by_cases h : n = m <;> simp [h]
end Pu
set_option Elab.async false
set_option linter.all false
set_option maxRecDepth 100000
set_option maxHeartbeats 0
/-! printed by gen.py: the defs of law_k00_whole_surfaces -/
namespace La
open PySem L2 PyProof.Rows Pu
def top (i : Nat) : Stmt := PySem.Challenge.pw_surfacestell_k00_whole_surfaces.main.body.getD i (.Pass ⟨0, 0, 0, 0⟩)
/-! ### _law_cup -/
def st__law_cup : Stmt := top 14
def N__law_cup : List Str := ["script", "cell"]
def ps__law_cup : List Str := ["script"]
def m__law_cup : M Fl := mBlk [mSet 1 (mPrim fAbs [mBin fItem (mBin fAdd (mPrim fList [mSlot 0]) (mLst [mEsc (mC (.int 0))])) (mC (.int 0))]), mRet (mLst [mEsc (mIf (mBin fGe (mSlot 1) (mBin fPow (mC (.int 10)) (mC (.int 18)))) (mBin fDiv (mSlot 1) (mC (.int 313))) (mC (.int 0))), mEsc (mBin fMod (mPrim fInt [mBin fAdd (mBin fMul (mSlot 1) (mC (.int 1093))) (mC (.int 95021))]) (mC (.int 1048576)))])]
def p__law_cup : PF := pfOf 2 m__law_cup
def gl__law_cup : List (Str × Gv) := [("abs", .blt), ("int", .blt), ("list", .blt)]
theorem dn__law_cup : denD ⟨N__law_cup, defScope st__law_cup, fun _ => true, gl__law_cup⟩ (defBody st__law_cup) = some (m__law_cup) := by kernel_rfl
theorem sc__law_cup : FnScope N__law_cup ps__law_cup (defScope st__law_cup) := ⟨rfl, rfl, rfl, by decide +kernel, rfl, by decide +kernel, by decide +kernel⟩
/-! ### _law_sort -/
def st__law_sort : Stmt := top 17
def N__law_sort : List Str := ["value"]
def ps__law_sort : List Str := ["value"]
def m__law_sort : M Fl := mBlk [mIfS (mOr (mBin (fIs false) (mSlot 0) (mC .none)) (mUn (fIsa "bool") (mSlot 0))) (mBlk [mRet (mIf (mBin (fIs false) (mSlot 0) (mC .none)) (mC (.int 0)) (mC (.int 1)))]) (mBlk []), mIfS (mOr (mUn (fIsa "int") (mSlot 0)) (mUn (fIsa "str") (mSlot 0))) (mBlk [mRet (mIf (mUn (fIsa "int") (mSlot 0)) (mC (.int 2)) (mC (.int 3)))]) (mBlk []), mRet (mIf (mUn (fIsa "tuple") (mSlot 0)) (mC (.int 4)) (mIf (mUn (fIsa "list") (mSlot 0)) (mC (.int 5)) (mC (.int 6))))]
def p__law_sort : PF := pfOf 1 m__law_sort
def gl__law_sort : List (Str × Gv) := [("isinstance", .blt), ("bool", .blt), ("int", .blt), ("str", .blt), ("tuple", .blt), ("list", .blt)]
theorem dn__law_sort : denD ⟨N__law_sort, defScope st__law_sort, fun _ => true, gl__law_sort⟩ (defBody st__law_sort) = some (m__law_sort) := by kernel_rfl
theorem sc__law_sort : FnScope N__law_sort ps__law_sort (defScope st__law_sort) := ⟨rfl, rfl, rfl, by decide +kernel, rfl, by decide +kernel, by decide +kernel⟩
/-! ### _law_like -/
def st__law_like : Stmt := top 18
def N__law_like : List Str := ["one", "other", "sort", "first", "second"]
def ps__law_like : List Str := ["one", "other"]
def m__law_like (p__law_like : Nat → PF) (n : Nat) : M Fl := mBlk [mSet 2 (mCall 1 p__law_sort [mEsc (mSlot 1)]), mIfS (mOr (mBin fNe (mCall 1 p__law_sort [mEsc (mSlot 0)]) (mSlot 2)) (mBin fEq (mSlot 2) (mC (.int 6)))) (mBlk [mRet (mC (.bool false))]) (mBlk []), mIfS (mBin (fIn false) (mSlot 2) (mTup [mEsc (mC (.int 4)), mEsc (mC (.int 5))])) (mBlk [mRet (mAnd (mBin fEq (mPrim fLen [mSlot 0]) (mPrim fLen [mSlot 1])) (mBin fEq (mComp [3, 4] (mWalk fZip [mEsc (mSlot 0), mEsc (mSlot 1)]) (.t [3, 4]) (mNot (mCall 2 (p__law_like n) [mEsc (mSlot 3), mEsc (mSlot 4)])) (mC (.int 1))) (mLst [])))]) (mBlk []), mRet (mBin fEq (mSlot 0) (mSlot 1))]
def p__law_like : Nat → PF := fun n => Nat.rec (fun _ => .bad) (fun _ p => pfOf 5 (m__law_like (fun _ => p) 0)) n
def gl__law_like (p : PF) : List (Str × Gv) := [("_law_sort", .fn 1 none p__law_sort), ("len", .blt), ("zip", .blt), ("_law_like", .fn 2 none p)]
theorem dn__law_like (p : PF) : denD ⟨N__law_like, defScope st__law_like, fun _ => true, gl__law_like p⟩ (defBody st__law_like) = some (m__law_like (fun _ => p) 0) := by kernel_rfl
theorem sc__law_like : FnScope N__law_like ps__law_like (defScope st__law_like) := ⟨rfl, rfl, rfl, by decide +kernel, rfl, by decide +kernel, by decide +kernel⟩
/-! ### is_ascending -/
def st_is_ascending : Stmt := top 3
def N_is_ascending : List Str := ["values", "one", "other"]
def ps_is_ascending : List Str := ["values"]
def m_is_ascending : M Fl := mBlk [mRet (mPrim fAll [mComp [1, 2] (mWalk fZip [mEsc (mSlot 0), mEsc (mCut (mSlot 0) (optM (some (mC (.int 1)))) (optM none))]) (.t [1, 2]) (mC (.bool true)) (mBin fLt (mSlot 1) (mSlot 2))])]
def p_is_ascending : PF := pfOf 3 m_is_ascending
def gl_is_ascending : List (Str × Gv) := [("all", .blt), ("zip", .blt)]
theorem dn_is_ascending : denD ⟨N_is_ascending, defScope st_is_ascending, fun _ => true, gl_is_ascending⟩ (defBody st_is_ascending) = some (m_is_ascending) := by kernel_rfl
theorem sc_is_ascending : FnScope N_is_ascending ps_is_ascending (defScope st_is_ascending) := ⟨rfl, rfl, rfl, by decide +kernel, rfl, by decide +kernel, by decide +kernel⟩
/-! ### is_tuple_of -/
def st_is_tuple_of : Stmt := top 2
def N_is_tuple_of : List Str := ["value", "low", "high"]
def ps_is_tuple_of : List Str := ["value", "low", "high"]
def m_is_tuple_of : M Fl := mBlk [mRet (mAnd (mUn (fIsa "tuple") (mSlot 0)) (mChain fLe fLe (mSlot 1) (mPrim fLen [mSlot 0]) (mSlot 2)))]
def p_is_tuple_of : PF := pfOf 3 m_is_tuple_of
def gl_is_tuple_of : List (Str × Gv) := [("isinstance", .blt), ("tuple", .blt), ("len", .blt)]
theorem dn_is_tuple_of : denD ⟨N_is_tuple_of, defScope st_is_tuple_of, fun _ => true, gl_is_tuple_of⟩ (defBody st_is_tuple_of) = some (m_is_tuple_of) := by kernel_rfl
theorem sc_is_tuple_of : FnScope N_is_tuple_of ps_is_tuple_of (defScope st_is_tuple_of) := ⟨rfl, rfl, rfl, by decide +kernel, rfl, by decide +kernel, by decide +kernel⟩
/-! ### is_whole -/
def st_is_whole : Stmt := top 1
def N_is_whole : List Str := ["value", "low", "high"]
def ps_is_whole : List Str := ["value", "low", "high"]
def m_is_whole : M Fl := mBlk [mRet (mAnd (mUn (fIsa "int") (mSlot 0)) (mAnd (mNot (mUn (fIsa "bool") (mSlot 0))) (mChain fLe fLe (mSlot 1) (mSlot 0) (mSlot 2))))]
def p_is_whole : PF := pfOf 3 m_is_whole
def gl_is_whole : List (Str × Gv) := [("isinstance", .blt), ("int", .blt), ("bool", .blt)]
theorem dn_is_whole : denD ⟨N_is_whole, defScope st_is_whole, fun _ => true, gl_is_whole⟩ (defBody st_is_whole) = some (m_is_whole) := by kernel_rfl
theorem sc_is_whole : FnScope N_is_whole ps_is_whole (defScope st_is_whole) := ⟨rfl, rfl, rfl, by decide +kernel, rfl, by decide +kernel, by decide +kernel⟩
/-! ### is_rising -/
def st_is_rising : Stmt := top 5
def N_is_rising : List Str := ["value", "one", "other"]
def ps_is_rising : List Str := ["value"]
def m_is_rising : M Fl := mBlk [mRet (mPrim fAll [mComp [1, 2] (mWalk fZip [mEsc (mSlot 0), mEsc (mCut (mSlot 0) (optM (some (mC (.int 1)))) (optM none))]) (.t [1, 2]) (mC (.bool true)) (mBin fLe (mSlot 1) (mSlot 2))])]
def p_is_rising : PF := pfOf 3 m_is_rising
def gl_is_rising : List (Str × Gv) := [("all", .blt), ("zip", .blt)]
theorem dn_is_rising : denD ⟨N_is_rising, defScope st_is_rising, fun _ => true, gl_is_rising⟩ (defBody st_is_rising) = some (m_is_rising) := by kernel_rfl
theorem sc_is_rising : FnScope N_is_rising ps_is_rising (defScope st_is_rising) := ⟨rfl, rfl, rfl, by decide +kernel, rfl, by decide +kernel, by decide +kernel⟩
/-! ### all_once -/
def st_all_once : Stmt := top 11
def N_all_once : List Str := ["lots", "many", "found", "lot"]
def ps_all_once : List Str := ["lots", "many"]
def m_all_once : M Fl := mBlk [mSet 2 (mLst []), mFor (mSeq (mSlot 0)) (.n 3) (mBlk [mSet 2 (mBin fAdd (mSlot 2) (mPrim fList [mSlot 3]))]), mRet (mBin fEq (mPrim fSorted [mSlot 2]) (mUn fRL1 (mSlot 1)))]
def p_all_once : PF := pfOf 4 m_all_once
def gl_all_once : List (Str × Gv) := [("sorted", .blt), ("list", .blt), ("range", .blt)]
theorem dn_all_once : denD ⟨N_all_once, defScope st_all_once, fun _ => true, gl_all_once⟩ (defBody st_all_once) = some (m_all_once) := by kernel_rfl
theorem sc_all_once : FnScope N_all_once ps_all_once (defScope st_all_once) := ⟨rfl, rfl, rfl, by decide +kernel, rfl, by decide +kernel, by decide +kernel⟩
/-! ### is_set_below -/
def st_is_set_below : Stmt := top 4
def N_is_set_below : List Str := ["value", "many", "one"]
def ps_is_set_below : List Str := ["value", "many"]
def m_is_set_below : M Fl := mBlk [mIfS (mOr (mNot (mUn (fIsa "tuple") (mSlot 0))) (mNot (mPrim fAll [mComp [2] (mSeq (mSlot 0)) (.n 2) (mC (.bool true)) (mCall 3 p_is_whole [mEsc (mSlot 2), mEsc (mC (.int 0)), mEsc (mBin fSub (mSlot 1) (mC (.int 1)))])]))) (mBlk [mRet (mC (.bool false))]) (mBlk []), mRet (mCall 1 p_is_ascending [mEsc (mSlot 0)])]
def p_is_set_below : PF := pfOf 3 m_is_set_below
def gl_is_set_below : List (Str × Gv) := [("is_ascending", .fn 1 none p_is_ascending), ("isinstance", .blt), ("tuple", .blt), ("all", .blt), ("is_whole", .fn 3 none p_is_whole)]
theorem dn_is_set_below : denD ⟨N_is_set_below, defScope st_is_set_below, fun _ => true, gl_is_set_below⟩ (defBody st_is_set_below) = some (m_is_set_below) := by kernel_rfl
theorem sc_is_set_below : FnScope N_is_set_below ps_is_set_below (defScope st_is_set_below) := ⟨rfl, rfl, rfl, by decide +kernel, rfl, by decide +kernel, by decide +kernel⟩
/-! ### is_part -/
def st_is_part : Stmt := top 10
def N_is_part : List Str := ["value", "rims_in", "rims_out"]
def ps_is_part : List Str := ["value", "rims_in", "rims_out"]
def m_is_part : M Fl := mBlk [mIfS (mOr (mNot (mCall 3 p_is_tuple_of [mEsc (mSlot 0), mEsc (mC (.int 3)), mEsc (mC (.int 3))])) (mNot (mCall 3 p_is_whole [mEsc (mBin fItem (mSlot 0) (mC (.int 2))), mEsc (mC (.int 0)), mEsc (mC (.int 60))]))) (mBlk [mRet (mC (.bool false))]) (mBlk []), mIfS (mOr (mNot (mCall 2 p_is_set_below [mEsc (mBin fItem (mSlot 0) (mC (.int 0))), mEsc (mSlot 1)])) (mNot (mCall 2 p_is_set_below [mEsc (mBin fItem (mSlot 0) (mC (.int 1))), mEsc (mSlot 2)]))) (mBlk [mRet (mC (.bool false))]) (mBlk []), mRet (mOr (mBin fNe (mBin fItem (mSlot 0) (mC (.int 0))) (mTup [])) (mBin fNe (mBin fItem (mSlot 0) (mC (.int 1))) (mTup [])))]
def p_is_part : PF := pfOf 3 m_is_part
def gl_is_part : List (Str × Gv) := [("is_tuple_of", .fn 3 none p_is_tuple_of), ("is_whole", .fn 3 none p_is_whole), ("HOLES", .con (.int (60))), ("is_set_below", .fn 2 none p_is_set_below)]
theorem dn_is_part : denD ⟨N_is_part, defScope st_is_part, fun _ => true, gl_is_part⟩ (defBody st_is_part) = some (m_is_part) := by kernel_rfl
theorem sc_is_part : FnScope N_is_part ps_is_part (defScope st_is_part) := ⟨rfl, rfl, rfl, by decide +kernel, rfl, by decide +kernel, by decide +kernel⟩
/-! ### is_surface -/
def st_is_surface : Stmt := top 12
def N_is_surface : List Str := ["value", "rims_in", "rims_out", "parts", "shut", "part", "own"]
def ps_is_surface : List Str := ["value"]
def m_is_surface : M Fl := mBlk [mIfS (mOr (mNot (mCall 3 p_is_tuple_of [mEsc (mSlot 0), mEsc (mC (.int 4)), mEsc (mC (.int 4))])) (mOr (mNot (mCall 3 p_is_whole [mEsc (mBin fItem (mSlot 0) (mC (.int 0))), mEsc (mC (.int 0)), mEsc (mC (.int 8))])) (mNot (mCall 3 p_is_whole [mEsc (mBin fItem (mSlot 0) (mC (.int 1))), mEsc (mC (.int 0)), mEsc (mC (.int 8))])))) (mBlk [mRet (mC (.bool false))]) (mBlk []), mAsg (.t [1, 2, 3, 4]) (mSlot 0), mIfS (mOr (mNot (mCall 3 p_is_tuple_of [mEsc (mSlot 3), mEsc (mC (.int 0)), mEsc (mBin fMul (mC (.int 2)) (mC (.int 8)))])) (mNot (mPrim fAll [mComp [5] (mSeq (mSlot 3)) (.n 5) (mC (.bool true)) (mCall 3 p_is_part [mEsc (mSlot 5), mEsc (mSlot 1), mEsc (mSlot 2)])]))) (mBlk [mRet (mC (.bool false))]) (mBlk []), mIfS (mOr (mNot (mCall 3 p_is_tuple_of [mEsc (mSlot 4), mEsc (mC (.int 0)), mEsc (mC (.int 20))])) (mOr (mNot (mPrim fAll [mComp [6] (mSeq (mSlot 4)) (.n 6) (mC (.bool true)) (mCall 3 p_is_whole [mEsc (mSlot 6), mEsc (mC (.int 0)), mEsc (mC (.int 60))])])) (mNot (mCall 1 p_is_rising [mEsc (mSlot 4)])))) (mBlk [mRet (mC (.bool false))]) (mBlk []), mIfS (mOr (mNot (mCall 2 p_all_once [mEsc (mComp [5] (mSeq (mSlot 3)) (.n 5) (mC (.bool true)) (mBin fItem (mSlot 5) (mC (.int 0)))), mEsc (mSlot 1)])) (mNot (mCall 2 p_all_once [mEsc (mComp [5] (mSeq (mSlot 3)) (.n 5) (mC (.bool true)) (mBin fItem (mSlot 5) (mC (.int 1)))), mEsc (mSlot 2)]))) (mBlk [mRet (mC (.bool false))]) (mBlk []), mRet (mCall 1 p_is_ascending [mEsc (mSlot 3)])]
def p_is_surface : PF := pfOf 7 m_is_surface
def gl_is_surface : List (Str × Gv) := [("is_ascending", .fn 1 none p_is_ascending), ("is_tuple_of", .fn 3 none p_is_tuple_of), ("is_whole", .fn 3 none p_is_whole), ("RIMS", .con (.int (8))), ("all", .blt), ("SHUT", .con (.int (20))), ("is_rising", .fn 1 none p_is_rising), ("all_once", .fn 2 none p_all_once), ("is_part", .fn 3 none p_is_part), ("HOLES", .con (.int (60)))]
theorem dn_is_surface : denD ⟨N_is_surface, defScope st_is_surface, fun _ => true, gl_is_surface⟩ (defBody st_is_surface) = some (m_is_surface) := by kernel_rfl
theorem sc_is_surface : FnScope N_is_surface ps_is_surface (defScope st_is_surface) := ⟨rfl, rfl, rfl, by decide +kernel, rfl, by decide +kernel, by decide +kernel⟩
/-! ### _law_written_right -/
def st__law_written_right : Stmt := top 22
def N__law_written_right : List Str := ["join", "goods", "own", "odds"]
def ps__law_written_right : List Str := []
def m__law_written_right : M Fl := mBlk [mSet 0 (mTup [mEsc (mC (.int 2)), mEsc (mC (.int 1)), mEsc (mTup [mEsc (mTup [mEsc (mTup [mEsc (mC (.int 0)), mEsc (mC (.int 1))]), mEsc (mTup [mEsc (mC (.int 0))]), mEsc (mC (.int 0))])]), mEsc (mTup [])]), mSet 1 (mLst [mEsc (mSlot 0), mEsc (mTup [mEsc (mC (.int 0)), mEsc (mC (.int 0)), mEsc (mTup []), mEsc (mTup [])]), mEsc (mTup [mEsc (mC (.int 0)), mEsc (mC (.int 0)), mEsc (mTup []), mEsc (mTup [mEsc (mC (.int 0)), mEsc (mC (.int 0)), mEsc (mC (.int 2))])]), mEsc (mTup [mEsc (mC (.int 1)), mEsc (mC (.int 1)), mEsc (mTup [mEsc (mTup [mEsc (mTup []), mEsc (mTup [mEsc (mC (.int 0))]), mEsc (mC (.int 0))]), mEsc (mTup [mEsc (mTup [mEsc (mC (.int 0))]), mEsc (mTup []), mEsc (mC (.int 0))])]), mEsc (mTup [])]), mEsc (mTup [mEsc (mC (.int 0)), mEsc (mC (.int 0)), mEsc (mTup []), mEsc (mBin fMul (mTup [mEsc (mC (.int 60))]) (mC (.int 20)))])]), mSet 1 (mBin fAdd (mSlot 1) (mLst [mEsc (mTup [mEsc (mC (.int 8)), mEsc (mC (.int 8)), mEsc (mTup [mEsc (mTup [mEsc (mUn fRT1 (mC (.int 8))), mEsc (mUn fRT1 (mC (.int 8))), mEsc (mC (.int 60))])]), mEsc (mTup [])]), mEsc (mTup [mEsc (mC (.int 2)), mEsc (mC (.int 2)), mEsc (mTup [mEsc (mTup [mEsc (mTup [mEsc (mC (.int 0))]), mEsc (mTup [mEsc (mC (.int 0))]), mEsc (mC (.int 0))]), mEsc (mTup [mEsc (mTup [mEsc (mC (.int 1))]), mEsc (mTup [mEsc (mC (.int 1))]), mEsc (mC (.int 0))])]), mEsc (mTup [mEsc (mC (.int 3))])])])), mIfS (mNot (mCall 2 (p__law_like 20) [mEsc (mComp [2] (mSeq (mSlot 1)) (.n 2) (mC (.bool true)) (mCall 1 p_is_surface [mEsc (mSlot 2)])), mEsc (mBin fMul (mLst [mEsc (mC (.bool true))]) (mC (.int 7)))])) (mBlk [mRet (mC (.bool false))]) (mBlk []), mSet 3 (mLst [mEsc (mC .none), mEsc (mC (.int 0)), mEsc (mTup []), mEsc (mC (.str ("x" : Str))), mEsc (mTup [mEsc (mC (.int 0)), mEsc (mC (.int 0)), mEsc (mTup [])]), mEsc (mTup [mEsc (mC (.int 1)), mEsc (mC (.int 1)), mEsc (mTup [mEsc (mTup [mEsc (mTup [mEsc (mC (.int 0))]), mEsc (mTup []), mEsc (mC (.int 0))]), mEsc (mTup [mEsc (mTup []), mEsc (mTup [mEsc (mC (.int 0))]), mEsc (mC (.int 0))])]), mEsc (mTup [])]), mEsc (mTup [mEsc (mC (.int 0)), mEsc (mC (.int 0)), mEsc (mTup [mEsc (mTup [mEsc (mTup []), mEsc (mTup []), mEsc (mC (.int 0))])]), mEsc (mTup [])]), mEsc (mTup [mEsc (mC (.int 0)), mEsc (mC (.int 0)), mEsc (mTup []), mEsc (mTup [mEsc (mC (.int 2)), mEsc (mC (.int 1))])])]), mSet 3 (mBin fAdd (mSlot 3) (mLst [mEsc (mTup [mEsc (mC (.int 2)), mEsc (mC (.int 0)), mEsc (mTup [mEsc (mTup [mEsc (mTup [mEsc (mC (.int 0))]), mEsc (mTup []), mEsc (mC (.int 0))])]), mEsc (mTup [])]), mEsc (mTup [mEsc (mC (.int 1)), mEsc (mC (.int 0)), mEsc (mTup [mEsc (mTup [mEsc (mTup [mEsc (mC (.int 0))]), mEsc (mTup []), mEsc (mC (.int 61))])]), mEsc (mTup [])]), mEsc (mTup [mEsc (mC (.int 9)), mEsc (mC (.int 0)), mEsc (mTup [mEsc (mTup [mEsc (mUn fRT1 (mC (.int 9))), mEsc (mTup []), mEsc (mC (.int 0))])]), mEsc (mTup [])]), mEsc (mTup [mEsc (mC (.int 0)), mEsc (mC (.int 0)), mEsc (mTup []), mEsc (mBin fMul (mTup [mEsc (mC (.int 0))]) (mC (.int 21)))])])), mSet 3 (mBin fAdd (mSlot 3) (mLst [mEsc (mTup [mEsc (mC (.bool true)), mEsc (mC (.int 0)), mEsc (mTup [mEsc (mTup [mEsc (mTup [mEsc (mC (.int 0))]), mEsc (mTup []), mEsc (mC (.int 0))])]), mEsc (mTup [])]), mEsc (mTup [mEsc (mC (.int 2)), mEsc (mC (.int 0)), mEsc (mTup [mEsc (mTup [mEsc (mTup [mEsc (mC (.int 1)), mEsc (mC (.int 0))]), mEsc (mTup []), mEsc (mC (.int 0))])]), mEsc (mTup [])]), mEsc (mTup [mEsc (mC (.int 2)), mEsc (mC (.int 0)), mEsc (mTup [mEsc (mTup [mEsc (mTup [mEsc (mC (.int 0)), mEsc (mC (.int 1))]), mEsc (mTup []), mEsc (mC (.int 0))]), mEsc (mTup [mEsc (mTup [mEsc (mC (.int 1))]), mEsc (mTup []), mEsc (mC (.int 0))])]), mEsc (mTup [])])])), mSet 3 (mBin fAdd (mSlot 3) (mLst [mEsc (mTup [mEsc (mC (.int 1)), mEsc (mC (.int 1)), mEsc (mTup [mEsc (mTup [mEsc (mTup [mEsc (mC (.int 0))]), mEsc (mTup [mEsc (mC (.int 0))])])]), mEsc (mTup [])]), mEsc (mTup [mEsc (mC (.int 1)), mEsc (mC (.int 1)), mEsc (mTup [mEsc (mTup [mEsc (mTup [mEsc (mC (.int 0))]), mEsc (mTup [mEsc (mC (.int 0))]), mEsc (mC (.int 0)), mEsc (mC (.int 0))])]), mEsc (mTup [])]), mEsc (mTup [mEsc (mC (.int 1)), mEsc (mC (.int 1)), mEsc (mTup [mEsc (mLst [mEsc (mTup [mEsc (mC (.int 0))]), mEsc (mTup [mEsc (mC (.int 0))]), mEsc (mC (.int 0))])]), mEsc (mTup [])]), mEsc (mTup [mEsc (mC (.int 0)), mEsc (mC (.int 0)), mEsc (mTup []), mEsc (mLst [mEsc (mC (.int 0))])]), mEsc (mTup [mEsc (mC (.int 0)), mEsc (mC (.int 0)), mEsc (mTup []), mEsc (mTup [mEsc (mC (.bool false))])])])), mSet 3 (mBin fAdd (mSlot 3) (mLst [mEsc (mTup [mEsc (mC (.int 1)), mEsc (mC (.int 0)), mEsc (mTup [mEsc (mTup [mEsc (mTup [mEsc (mC (.int 0))]), mEsc (mTup [mEsc (mC (.int 0))]), mEsc (mC (.int 0))])]), mEsc (mTup [])]), mEsc (mTup [mEsc (mUn fNeg (mC (.int 1))), mEsc (mC (.int 0)), mEsc (mTup []), mEsc (mTup [])]), mEsc (mTup [mEsc (mC (.int 1)), mEsc (mC (.int 0)), mEsc (mTup [mEsc (mTup [mEsc (mLst [mEsc (mC (.int 0))]), mEsc (mTup []), mEsc (mC (.int 0))])]), mEsc (mTup [])]), mEsc (mTup [mEsc (mC (.int 0)), mEsc (mC (.int 1)), mEsc (mTup [mEsc (mTup [mEsc (mTup []), mEsc (mTup [mEsc (mC (.int 1))]), mEsc (mC (.int 0))])]), mEsc (mTup [])])])), mRet (mCall 2 (p__law_like 20) [mEsc (mComp [2] (mSeq (mSlot 3)) (.n 2) (mC (.bool true)) (mCall 1 p_is_surface [mEsc (mSlot 2)])), mEsc (mBin fMul (mLst [mEsc (mC (.bool false))]) (mC (.int 24)))])]
def p__law_written_right : PF := pfOf 4 m__law_written_right
def gl__law_written_right : List (Str × Gv) := [("_law_like", .fn 2 none (p__law_like 20)), ("is_surface", .fn 1 none p_is_surface), ("tuple", .blt), ("range", .blt)]
theorem dn__law_written_right : denD ⟨N__law_written_right, defScope st__law_written_right, fun _ => true, gl__law_written_right⟩ (defBody st__law_written_right) = some (m__law_written_right) := by kernel_rfl
theorem sc__law_written_right : FnScope N__law_written_right ps__law_written_right (defScope st__law_written_right) := ⟨rfl, rfl, rfl, by decide +kernel, rfl, by decide +kernel, by decide +kernel⟩
/-! ### _law_roll -/
def st__law_roll : Stmt := top 15
def N__law_roll : List Str := ["cup", "many", "found"]
def ps__law_roll : List Str := ["cup", "many"]
def m__law_roll : M Fl := mBlk [mIfS (mBin fGt (mBin fItem (mSlot 0) (mC (.int 0))) (mC (.int 0))) (mBlk [mSet 2 (mBin fMod (mPrim fInt [mBin fItem (mSlot 0) (mC (.int 0))]) (mSlot 1)), mStore 0 (mC (.int 0)) (mBin fDiv (mBin fItem (mSlot 0) (mC (.int 0))) (mSlot 1)), mRet (mSlot 2)]) (mBlk []), mStore 0 (mC (.int 1)) (mBin fMod (mPrim fInt [mBin fAdd (mBin fMul (mBin fItem (mSlot 0) (mC (.int 1))) (mC (.int 22717))) (mC (.int 47143))]) (mC (.int 1048576))), mRet (mBin fMod (mPrim fInt [mBin fDiv (mBin fItem (mSlot 0) (mC (.int 1))) (mC (.int 139))]) (mSlot 1))]
def p__law_roll : PF := pfOf 3 m__law_roll
def gl__law_roll : List (Str × Gv) := [("int", .blt)]
theorem dn__law_roll : denD ⟨N__law_roll, defScope st__law_roll, fun _ => true, gl__law_roll⟩ (defBody st__law_roll) = some (m__law_roll) := by kernel_rfl
theorem sc__law_roll : FnScope N__law_roll ps__law_roll (defScope st__law_roll) := ⟨rfl, rfl, rfl, by decide +kernel, rfl, by decide +kernel, by decide +kernel⟩
/-! ### _law_surface -/
def st__law_surface : Stmt := top 19
def N__law_surface : List Str := ["cup", "rims_in", "rims_out", "many", "ins", "outs", "piece", "rim", "at", "holes", "parts", "shut"]
def ps__law_surface : List Str := ["cup"]
def m__law_surface : M Fl := mBlk [mPar [1, 2, 3] [mEsr (mCall 2 p__law_roll [mSlot 0, mEsc (mC (.int 9))]), mEsr (mCall 2 p__law_roll [mSlot 0, mEsc (mC (.int 9))]), mEsr (mBin fAdd (mC (.int 1)) (mCall 2 p__law_roll [mSlot 0, mEsc (mC (.int 6))]))], mPar [4, 5] [mEsr (mComp [6] (mWalk fRange1 [mEsc (mSlot 3)]) (.n 6) (mC (.bool true)) (mTup [])), mEsr (mComp [6] (mWalk fRange1 [mEsc (mSlot 3)]) (.n 6) (mC (.bool true)) (mTup []))], mFor (mWalk fRange1 [mEsc (mSlot 1)]) (.n 7) (mBlk [mSet 8 (mCall 2 p__law_roll [mSlot 0, mEsc (mSlot 3)]), mStore 4 (mSlot 8) (mBin fAdd (mBin fItem (mSlot 4) (mSlot 8)) (mTup [mEsc (mSlot 7)]))]), mFor (mWalk fRange1 [mEsc (mSlot 2)]) (.n 7) (mBlk [mSet 8 (mCall 2 p__law_roll [mSlot 0, mEsc (mSlot 3)]), mStore 5 (mSlot 8) (mBin fAdd (mBin fItem (mSlot 5) (mSlot 8)) (mTup [mEsc (mSlot 7)]))]), mSet 9 (mComp [6] (mWalk fRange1 [mEsc (mSlot 3)]) (.n 6) (mC (.bool true)) (mCall 2 p__law_roll [mSlot 0, mEsc (mC (.int 61))])), mSet 10 (mComp [8] (mWalk fRange1 [mEsc (mSlot 3)]) (.n 8) (mOr (mBin fNe (mBin fItem (mSlot 4) (mSlot 8)) (mTup [])) (mBin fNe (mBin fItem (mSlot 5) (mSlot 8)) (mTup []))) (mTup [mEsc (mBin fItem (mSlot 4) (mSlot 8)), mEsc (mBin fItem (mSlot 5) (mSlot 8)), mEsc (mBin fItem (mSlot 9) (mSlot 8))])), mSet 11 (mComp [8] (mWalk fRange1 [mEsc (mSlot 3)]) (.n 8) (mAnd (mBin fEq (mBin fItem (mSlot 4) (mSlot 8)) (mTup [])) (mBin fEq (mBin fItem (mSlot 5) (mSlot 8)) (mTup []))) (mBin fItem (mSlot 9) (mSlot 8))), mRet (mTup [mEsc (mSlot 1), mEsc (mSlot 2), mEsc (mPrim fTuple [mPrim fSorted [mSlot 10]]), mEsc (mPrim fTuple [mPrim fSorted [mSlot 11]])])]
def p__law_surface : PF := pfOf 12 m__law_surface
def gl__law_surface : List (Str × Gv) := [("range", .blt), ("_law_roll", .fn 2 (some 0) p__law_roll), ("tuple", .blt), ("sorted", .blt)]
theorem dn__law_surface : denD ⟨N__law_surface, defScope st__law_surface, fun _ => true, gl__law_surface⟩ (defBody st__law_surface) = some (m__law_surface) := by kernel_rfl
theorem sc__law_surface : FnScope N__law_surface ps__law_surface (defScope st__law_surface) := ⟨rfl, rfl, rfl, by decide +kernel, rfl, by decide +kernel, by decide +kernel⟩
/-! ### _law_some -/
def st__law_some : Stmt := top 16
def N__law_some : List Str := ["cup", "things"]
def ps__law_some : List Str := ["cup", "things"]
def m__law_some : M Fl := mBlk [mRet (mBin fItem (mSlot 1) (mCall 2 p__law_roll [mSlot 0, mEsc (mPrim fLen [mSlot 1])]))]
def p__law_some : PF := pfOf 2 m__law_some
def gl__law_some : List (Str × Gv) := [("_law_roll", .fn 2 (some 0) p__law_roll), ("len", .blt)]
theorem dn__law_some : denD ⟨N__law_some, defScope st__law_some, fun _ => true, gl__law_some⟩ (defBody st__law_some) = some (m__law_some) := by kernel_rfl
theorem sc__law_some : FnScope N__law_some ps__law_some (defScope st__law_some) := ⟨rfl, rfl, rfl, by decide +kernel, rfl, by decide +kernel, by decide +kernel⟩
/-! ### _law_bent -/
def st__law_bent : Stmt := top 20
def N__law_bent : List Str := ["cup", "surface", "rims_in", "rims_out", "parts", "shut", "kind", "at", "own"]
def ps__law_bent : List Str := ["cup", "surface"]
def m__law_bent : M Fl := mBlk [mAsg (.t [2, 3, 4, 5]) (mSlot 1), mSet 6 (mCall 2 p__law_roll [mSlot 0, mEsc (mC (.int 8))]), mIfS (mBin fEq (mSlot 6) (mC (.int 0))) (mBlk [mRet (mTup [mEsc (mBin fAdd (mSlot 2) (mC (.int 1))), mEsc (mSlot 3), mEsc (mSlot 4), mEsc (mSlot 5)])]) (mBlk []), mIfS (mBin fEq (mSlot 6) (mC (.int 1))) (mBlk [mRet (mTup [mEsc (mSlot 2), mEsc (mBin fAdd (mSlot 3) (mC (.int 1))), mEsc (mSlot 4), mEsc (mSlot 5)])]) (mBlk []), mIfS (mBin fEq (mSlot 6) (mC (.int 2))) (mBlk [mRet (mTup [mEsc (mSlot 2), mEsc (mSlot 3), mEsc (mBin fAdd (mSlot 4) (mTup [mEsc (mTup [mEsc (mTup []), mEsc (mTup []), mEsc (mC (.int 0))])])), mEsc (mSlot 5)])]) (mBlk []), mIfS (mBin fEq (mSlot 6) (mC (.int 3))) (mBlk [mRet (mTup [mEsc (mSlot 2), mEsc (mSlot 3), mEsc (mSlot 4), mEsc (mBin fAdd (mSlot 5) (mTup [mEsc (mUn fNeg (mC (.int 1)))]))])]) (mBlk []), mIfS (mBin fEq (mSlot 6) (mC (.int 4))) (mBlk [mRet (mTup [mEsc (mSlot 2), mEsc (mSlot 3), mEsc (mSlot 4), mEsc (mBin fAdd (mTup [mEsc (mC (.int 61))]) (mSlot 5))])]) (mBlk []), mIfS (mBin fEq (mSlot 6) (mC (.int 5))) (mBlk [mRet (mTup [mEsc (mSlot 2), mEsc (mSlot 3), mEsc (mPrim fList [mSlot 4]), mEsc (mSlot 5)])]) (mBlk []), mIfS (mBin fEq (mSlot 6) (mC (.int 6))) (mBlk [mRet (mTup [mEsc (mSlot 2), mEsc (mSlot 3), mEsc (mSlot 4), mEsc (mBin fAdd (mSlot 5) (mTup [mEsc (mC .none)]))])]) (mBlk []), mSet 7 (mIf (mBin fNe (mSlot 4) (mTup [])) (mCall 2 p__law_roll [mSlot 0, mEsc (mPrim fLen [mSlot 4])]) (mC (.int 0))), mIfS (mBin fEq (mSlot 4) (mTup [])) (mBlk [mRet (mTup [mEsc (mSlot 2), mEsc (mSlot 3), mEsc (mTup [mEsc (mTup [mEsc (mTup [mEsc (mC (.int 0))]), mEsc (mTup []), mEsc (mC (.int 0))])]), mEsc (mSlot 5)])]) (mBlk []), mSet 8 (mCall 2 p__law_some [mSlot 0, mEsc (mLst [mEsc (mUn fNeg (mC (.int 1))), mEsc (mC (.int 61)), mEsc (mC .none), mEsc (mC (.bool true)), mEsc (mC (.str ("0" : Str)))])]), mRet (mTup [mEsc (mSlot 2), mEsc (mSlot 3), mEsc (mBin fAdd (mBin fAdd (mCut (mSlot 4) (optM none) (optM (some (mSlot 7)))) (mTup [mEsc (mTup [mEsc (mBin fItem (mBin fItem (mSlot 4) (mSlot 7)) (mC (.int 0))), mEsc (mBin fItem (mBin fItem (mSlot 4) (mSlot 7)) (mC (.int 1))), mEsc (mSlot 8)])])) (mCut (mSlot 4) (optM (some (mBin fAdd (mSlot 7) (mC (.int 1))))) (optM none))), mEsc (mSlot 5)])]
def p__law_bent : PF := pfOf 9 m__law_bent
def gl__law_bent : List (Str × Gv) := [("_law_roll", .fn 2 (some 0) p__law_roll), ("_law_some", .fn 2 (some 0) p__law_some), ("list", .blt), ("len", .blt)]
theorem dn__law_bent : denD ⟨N__law_bent, defScope st__law_bent, fun _ => true, gl__law_bent⟩ (defBody st__law_bent) = some (m__law_bent) := by kernel_rfl
theorem sc__law_bent : FnScope N__law_bent ps__law_bent (defScope st__law_bent) := ⟨rfl, rfl, rfl, by decide +kernel, rfl, by decide +kernel, by decide +kernel⟩
/-! ### _law_surfaces_right -/
def st__law_surfaces_right : Stmt := top 21
def N__law_surfaces_right : List Str := ["cup", "surface", "bent", "told", "turned", "shuffled"]
def ps__law_surfaces_right : List Str := ["cup"]
def m__law_surfaces_right : M Fl := mBlk [mSet 1 (mCall 1 p__law_surface [mSlot 0]), mSet 2 (mCall 2 p__law_bent [mSlot 0, mEsc (mSlot 1)]), mSet 3 (mLst [mEsc (mCall 1 p_is_surface [mEsc (mSlot 1)]), mEsc (mCall 1 p_is_surface [mEsc (mSlot 2)]), mEsc (mCall 1 p_is_surface [mEsc (mPrim fList [mSlot 1])]), mEsc (mCall 1 p_is_surface [mEsc (mCut (mSlot 1) (optM none) (optM (some (mC (.int 3)))))])]), mIfS (mNot (mCall 2 (p__law_like 20) [mEsc (mSlot 3), mEsc (mLst [mEsc (mC (.bool true)), mEsc (mC (.bool false)), mEsc (mC (.bool false)), mEsc (mC (.bool false))])])) (mBlk [mRet (mC (.bool false))]) (mBlk []), mSet 4 (mBin fAdd (mCut (mSlot 1) (optM none) (optM (some (mC (.int 2))))) (mTup [mEsc (mUn fRev (mBin fItem (mSlot 1) (mC (.int 2)))), mEsc (mBin fItem (mSlot 1) (mC (.int 3)))])), mSet 5 (mBin fAdd (mCut (mSlot 1) (optM none) (optM (some (mC (.int 3))))) (mTup [mEsc (mUn fRev (mBin fItem (mSlot 1) (mC (.int 3))))])), mSet 3 (mLst [mEsc (mCall 1 p_is_surface [mEsc (mSlot 4)]), mEsc (mCall 1 p_is_surface [mEsc (mSlot 5)])]), mRet (mCall 2 (p__law_like 20) [mEsc (mSlot 3), mEsc (mLst [mEsc (mBin fLt (mPrim fLen [mBin fItem (mSlot 1) (mC (.int 2))]) (mC (.int 2))), mEsc (mBin fEq (mUn fRev (mBin fItem (mSlot 1) (mC (.int 3)))) (mBin fItem (mSlot 1) (mC (.int 3))))])])]
def p__law_surfaces_right : PF := pfOf 6 m__law_surfaces_right
def gl__law_surfaces_right : List (Str × Gv) := [("_law_surface", .fn 1 (some 0) p__law_surface), ("_law_bent", .fn 2 (some 0) p__law_bent), ("_law_like", .fn 2 none (p__law_like 20)), ("is_surface", .fn 1 none p_is_surface), ("list", .blt), ("len", .blt)]
theorem dn__law_surfaces_right : denD ⟨N__law_surfaces_right, defScope st__law_surfaces_right, fun _ => true, gl__law_surfaces_right⟩ (defBody st__law_surfaces_right) = some (m__law_surfaces_right) := by kernel_rfl
theorem sc__law_surfaces_right : FnScope N__law_surfaces_right ps__law_surfaces_right (defScope st__law_surfaces_right) := ⟨rfl, rfl, rfl, by decide +kernel, rfl, by decide +kernel, by decide +kernel⟩
/-! ### law -/
def st_law : Stmt := top 23
def N_law : List Str := ["script", "cup", "turn"]
def ps_law : List Str := ["script"]
def m_law : M Fl := mBlk [mIfS (mNot (mCall 0 p__law_written_right [])) (mBlk [mRet (mC (.bool false))]) (mBlk []), mSet 1 (mCall 1 p__law_cup [mEsc (mSlot 0)]), mFor (mWalk fRange1 [mEsc (mC (.int 12))]) (.n 2) (mBlk [mIfS (mNot (mCall 1 p__law_surfaces_right [mSlot 1])) (mBlk [mRet (mC (.bool false))]) (mBlk [])]), mRet (mC (.bool true))]
def p_law : PF := pfOf 3 m_law
def gl_law : List (Str × Gv) := [("_law_cup", .fn 1 none p__law_cup), ("range", .blt), ("_law_written_right", .fn 0 none p__law_written_right), ("_law_surfaces_right", .fn 1 (some 0) p__law_surfaces_right)]
theorem dn_law : denD ⟨N_law, defScope st_law, fun _ => true, gl_law⟩ (defBody st_law) = some (m_law) := by kernel_rfl
theorem sc_law : FnScope N_law ps_law (defScope st_law) := ⟨rfl, rfl, rfl, by decide +kernel, rfl, by decide +kernel, by decide +kernel⟩
/-! ### the head: facts by names -/
def d__law_cup : He.DefD := ⟨("_law_cup", none), "_law_cup", "_law_cup", defArgs st__law_cup, defBody st__law_cup, defScope st__law_cup, [], []⟩
def d__law_sort : He.DefD := ⟨("_law_sort", none), "_law_sort", "_law_sort", defArgs st__law_sort, defBody st__law_sort, defScope st__law_sort, [], []⟩
def d__law_like : He.DefD := ⟨("_law_like", none), "_law_like", "_law_like", defArgs st__law_like, defBody st__law_like, defScope st__law_like, [], []⟩
def d_is_ascending : He.DefD := ⟨("is_ascending", none), "is_ascending", "is_ascending", defArgs st_is_ascending, defBody st_is_ascending, defScope st_is_ascending, [], []⟩
def d_is_tuple_of : He.DefD := ⟨("is_tuple_of", none), "is_tuple_of", "is_tuple_of", defArgs st_is_tuple_of, defBody st_is_tuple_of, defScope st_is_tuple_of, [], []⟩
def d_is_whole : He.DefD := ⟨("is_whole", none), "is_whole", "is_whole", defArgs st_is_whole, defBody st_is_whole, defScope st_is_whole, [], []⟩
def d_is_rising : He.DefD := ⟨("is_rising", none), "is_rising", "is_rising", defArgs st_is_rising, defBody st_is_rising, defScope st_is_rising, [], []⟩
def d_all_once : He.DefD := ⟨("all_once", none), "all_once", "all_once", defArgs st_all_once, defBody st_all_once, defScope st_all_once, [], []⟩
def d_is_set_below : He.DefD := ⟨("is_set_below", none), "is_set_below", "is_set_below", defArgs st_is_set_below, defBody st_is_set_below, defScope st_is_set_below, [], []⟩
def d_is_part : He.DefD := ⟨("is_part", none), "is_part", "is_part", defArgs st_is_part, defBody st_is_part, defScope st_is_part, [], []⟩
def d_is_surface : He.DefD := ⟨("is_surface", none), "is_surface", "is_surface", defArgs st_is_surface, defBody st_is_surface, defScope st_is_surface, [], []⟩
def d__law_written_right : He.DefD := ⟨("_law_written_right", none), "_law_written_right", "_law_written_right", defArgs st__law_written_right, defBody st__law_written_right, defScope st__law_written_right, [], []⟩
def d__law_roll : He.DefD := ⟨("_law_roll", none), "_law_roll", "_law_roll", defArgs st__law_roll, defBody st__law_roll, defScope st__law_roll, [], []⟩
def d__law_surface : He.DefD := ⟨("_law_surface", none), "_law_surface", "_law_surface", defArgs st__law_surface, defBody st__law_surface, defScope st__law_surface, [], []⟩
def d__law_some : He.DefD := ⟨("_law_some", none), "_law_some", "_law_some", defArgs st__law_some, defBody st__law_some, defScope st__law_some, [], []⟩
def d__law_bent : He.DefD := ⟨("_law_bent", none), "_law_bent", "_law_bent", defArgs st__law_bent, defBody st__law_bent, defScope st__law_bent, [], []⟩
def d__law_surfaces_right : He.DefD := ⟨("_law_surfaces_right", none), "_law_surfaces_right", "_law_surfaces_right", defArgs st__law_surfaces_right, defBody st__law_surfaces_right, defScope st__law_surfaces_right, [], []⟩
def d_law : He.DefD := ⟨("law", none), "law", "law", defArgs st_law, defBody st_law, defScope st_law, [], []⟩
def fnL : List He.DefD := [d__law_cup, d__law_sort, d__law_like, d_is_ascending, d_is_tuple_of, d_is_whole, d_is_rising, d_all_once, d_is_set_below, d_is_part, d_is_surface, d__law_written_right, d__law_roll, d__law_surface, d__law_some, d__law_bent, d__law_surfaces_right, d_law]
def faL : List He.Fa := [.glo "_law_cup", .glo "_law_sort", .glo "_law_like", .glo "is_ascending", .glo "is_tuple_of", .glo "is_whole", .glo "is_rising", .glo "all_once", .glo "is_set_below", .glo "is_part", .glo "is_surface", .glo "_law_written_right", .glo "_law_roll", .glo "_law_surface", .glo "_law_some", .glo "_law_bent", .glo "_law_surfaces_right", .glo "law", .free "abs", .free "int", .free "list", .free "isinstance", .free "bool", .free "str", .free "tuple", .free "len", .free "zip", .free "all", .free "sorted", .free "range", .int "HOLES" (60), .int "RIMS" (8), .int "SHUT" (20)]
section
variable {P : Program} {w : World} {K : PySem.W.Frag} {mg : Str → Option Value} {base h : Heap} {XR : Exn → Value → Option Addr → Hp → Prop}
theorem ok__law_cup (X : K.In h) (G : h.Ns mainGlobals mg) (c : He.SaysD faL fnL K) : GvK P w K mg base XR 1 "_law_cup" (.fn 1 none p__law_cup) := by
  obtain ⟨fd, F⟩ := c.def_ 0 (d := d__law_cup) rfl
  exact ⟨_, fd, ps__law_cup, rfl, fn_den (fun_nodef F) sc__law_cup (gl_cons (gv_free (He.free_ok X G (c.fact 18 (f := .free "abs") rfl))) (gl_cons (gv_free (He.free_ok X G (c.fact 19 (f := .free "int") rfl))) (gl_cons (gv_free (He.free_ok X G (c.fact 20 (f := .free "list") rfl))) (gl_nil)))) dn__law_cup, He.glo_ok X G (c.fact 0 (f := .glo "_law_cup") rfl), F.kp, F.bindsN (ps := ps__law_cup) fun _ _ _ _ _ _ us hl => match us, hl with | [_], _ => rfl⟩
theorem ok__law_sort (X : K.In h) (G : h.Ns mainGlobals mg) (c : He.SaysD faL fnL K) : GvK P w K mg base XR 1 "_law_sort" (.fn 1 none p__law_sort) := by
  obtain ⟨fd, F⟩ := c.def_ 1 (d := d__law_sort) rfl
  exact ⟨_, fd, ps__law_sort, rfl, fn_den (fun_nodef F) sc__law_sort (gl_cons (gv_free (He.free_ok X G (c.fact 21 (f := .free "isinstance") rfl))) (gl_cons (gv_free (He.free_ok X G (c.fact 22 (f := .free "bool") rfl))) (gl_cons (gv_free (He.free_ok X G (c.fact 19 (f := .free "int") rfl))) (gl_cons (gv_free (He.free_ok X G (c.fact 23 (f := .free "str") rfl))) (gl_cons (gv_free (He.free_ok X G (c.fact 24 (f := .free "tuple") rfl))) (gl_cons (gv_free (He.free_ok X G (c.fact 20 (f := .free "list") rfl))) (gl_nil))))))) dn__law_sort, He.glo_ok X G (c.fact 1 (f := .glo "_law_sort") rfl), F.kp, F.bindsN (ps := ps__law_sort) fun _ _ _ _ _ _ us hl => match us, hl with | [_], _ => rfl⟩
theorem ok__law_like (X : K.In h) (G : h.Ns mainGlobals mg) (c : He.SaysD faL fnL K) : ∀ n : Nat, GvK P w K mg base XR (2 + n) "_law_like" (.fn 2 none (p__law_like n)) := by
  obtain ⟨fd, F⟩ := c.def_ 2 (d := d__law_like) rfl
  intro n
  induction n with
  | zero => exact ⟨_, fd, ps__law_like, rfl, fnok_bad, He.glo_ok X G (c.fact 2 (f := .glo "_law_like") rfl), F.kp, F.bindsN (ps := ps__law_like) fun _ _ _ _ _ _ us hl => match us, hl with | [_, _], _ => rfl⟩
  | succ n ih =>
    exact ⟨_, fd, ps__law_like, rfl, fn_den (fun_nodef F) sc__law_like (gl_cons ((ok__law_sort X G c).mono (Nat.le_trans (by decide) (Nat.le_add_right 2 n))) (gl_cons (gv_free (He.free_ok X G (c.fact 25 (f := .free "len") rfl))) (gl_cons (gv_free (He.free_ok X G (c.fact 26 (f := .free "zip") rfl))) (gl_cons (ih) (gl_nil))))) (dn__law_like (p__law_like n)), He.glo_ok X G (c.fact 2 (f := .glo "_law_like") rfl), F.kp, F.bindsN (ps := ps__law_like) fun _ _ _ _ _ _ us hl => match us, hl with | [_, _], _ => rfl⟩
theorem ok_is_ascending (X : K.In h) (G : h.Ns mainGlobals mg) (c : He.SaysD faL fnL K) : GvK P w K mg base XR 1 "is_ascending" (.fn 1 none p_is_ascending) := by
  obtain ⟨fd, F⟩ := c.def_ 3 (d := d_is_ascending) rfl
  exact ⟨_, fd, ps_is_ascending, rfl, fn_den (fun_nodef F) sc_is_ascending (gl_cons (gv_free (He.free_ok X G (c.fact 27 (f := .free "all") rfl))) (gl_cons (gv_free (He.free_ok X G (c.fact 26 (f := .free "zip") rfl))) (gl_nil))) dn_is_ascending, He.glo_ok X G (c.fact 3 (f := .glo "is_ascending") rfl), F.kp, F.bindsN (ps := ps_is_ascending) fun _ _ _ _ _ _ us hl => match us, hl with | [_], _ => rfl⟩
theorem ok_is_tuple_of (X : K.In h) (G : h.Ns mainGlobals mg) (c : He.SaysD faL fnL K) : GvK P w K mg base XR 1 "is_tuple_of" (.fn 3 none p_is_tuple_of) := by
  obtain ⟨fd, F⟩ := c.def_ 4 (d := d_is_tuple_of) rfl
  exact ⟨_, fd, ps_is_tuple_of, rfl, fn_den (fun_nodef F) sc_is_tuple_of (gl_cons (gv_free (He.free_ok X G (c.fact 21 (f := .free "isinstance") rfl))) (gl_cons (gv_free (He.free_ok X G (c.fact 24 (f := .free "tuple") rfl))) (gl_cons (gv_free (He.free_ok X G (c.fact 25 (f := .free "len") rfl))) (gl_nil)))) dn_is_tuple_of, He.glo_ok X G (c.fact 4 (f := .glo "is_tuple_of") rfl), F.kp, F.bindsN (ps := ps_is_tuple_of) fun _ _ _ _ _ _ us hl => match us, hl with | [_, _, _], _ => rfl⟩
theorem ok_is_whole (X : K.In h) (G : h.Ns mainGlobals mg) (c : He.SaysD faL fnL K) : GvK P w K mg base XR 1 "is_whole" (.fn 3 none p_is_whole) := by
  obtain ⟨fd, F⟩ := c.def_ 5 (d := d_is_whole) rfl
  exact ⟨_, fd, ps_is_whole, rfl, fn_den (fun_nodef F) sc_is_whole (gl_cons (gv_free (He.free_ok X G (c.fact 21 (f := .free "isinstance") rfl))) (gl_cons (gv_free (He.free_ok X G (c.fact 19 (f := .free "int") rfl))) (gl_cons (gv_free (He.free_ok X G (c.fact 22 (f := .free "bool") rfl))) (gl_nil)))) dn_is_whole, He.glo_ok X G (c.fact 5 (f := .glo "is_whole") rfl), F.kp, F.bindsN (ps := ps_is_whole) fun _ _ _ _ _ _ us hl => match us, hl with | [_, _, _], _ => rfl⟩
theorem ok_is_rising (X : K.In h) (G : h.Ns mainGlobals mg) (c : He.SaysD faL fnL K) : GvK P w K mg base XR 1 "is_rising" (.fn 1 none p_is_rising) := by
  obtain ⟨fd, F⟩ := c.def_ 6 (d := d_is_rising) rfl
  exact ⟨_, fd, ps_is_rising, rfl, fn_den (fun_nodef F) sc_is_rising (gl_cons (gv_free (He.free_ok X G (c.fact 27 (f := .free "all") rfl))) (gl_cons (gv_free (He.free_ok X G (c.fact 26 (f := .free "zip") rfl))) (gl_nil))) dn_is_rising, He.glo_ok X G (c.fact 6 (f := .glo "is_rising") rfl), F.kp, F.bindsN (ps := ps_is_rising) fun _ _ _ _ _ _ us hl => match us, hl with | [_], _ => rfl⟩
theorem ok_all_once (X : K.In h) (G : h.Ns mainGlobals mg) (c : He.SaysD faL fnL K) : GvK P w K mg base XR 1 "all_once" (.fn 2 none p_all_once) := by
  obtain ⟨fd, F⟩ := c.def_ 7 (d := d_all_once) rfl
  exact ⟨_, fd, ps_all_once, rfl, fn_den (fun_nodef F) sc_all_once (gl_cons (gv_free (He.free_ok X G (c.fact 28 (f := .free "sorted") rfl))) (gl_cons (gv_free (He.free_ok X G (c.fact 20 (f := .free "list") rfl))) (gl_cons (gv_free (He.free_ok X G (c.fact 29 (f := .free "range") rfl))) (gl_nil)))) dn_all_once, He.glo_ok X G (c.fact 7 (f := .glo "all_once") rfl), F.kp, F.bindsN (ps := ps_all_once) fun _ _ _ _ _ _ us hl => match us, hl with | [_, _], _ => rfl⟩
theorem ok_is_set_below (X : K.In h) (G : h.Ns mainGlobals mg) (c : He.SaysD faL fnL K) : GvK P w K mg base XR 2 "is_set_below" (.fn 2 none p_is_set_below) := by
  obtain ⟨fd, F⟩ := c.def_ 8 (d := d_is_set_below) rfl
  exact ⟨_, fd, ps_is_set_below, rfl, fn_den (fun_nodef F) sc_is_set_below (gl_cons ((ok_is_ascending X G c).mono (by decide)) (gl_cons (gv_free (He.free_ok X G (c.fact 21 (f := .free "isinstance") rfl))) (gl_cons (gv_free (He.free_ok X G (c.fact 24 (f := .free "tuple") rfl))) (gl_cons (gv_free (He.free_ok X G (c.fact 27 (f := .free "all") rfl))) (gl_cons ((ok_is_whole X G c).mono (by decide)) (gl_nil)))))) dn_is_set_below, He.glo_ok X G (c.fact 8 (f := .glo "is_set_below") rfl), F.kp, F.bindsN (ps := ps_is_set_below) fun _ _ _ _ _ _ us hl => match us, hl with | [_, _], _ => rfl⟩
theorem ok_is_part (X : K.In h) (G : h.Ns mainGlobals mg) (c : He.SaysD faL fnL K) : GvK P w K mg base XR 3 "is_part" (.fn 3 none p_is_part) := by
  obtain ⟨fd, F⟩ := c.def_ 9 (d := d_is_part) rfl
  exact ⟨_, fd, ps_is_part, rfl, fn_den (fun_nodef F) sc_is_part (gl_cons ((ok_is_tuple_of X G c).mono (by decide)) (gl_cons ((ok_is_whole X G c).mono (by decide)) (gl_cons (gv_int (He.int_ok X G (c.fact 30 (f := .int "HOLES" (60)) rfl))) (gl_cons ((ok_is_set_below X G c).mono (by decide)) (gl_nil))))) dn_is_part, He.glo_ok X G (c.fact 9 (f := .glo "is_part") rfl), F.kp, F.bindsN (ps := ps_is_part) fun _ _ _ _ _ _ us hl => match us, hl with | [_, _, _], _ => rfl⟩
theorem ok_is_surface (X : K.In h) (G : h.Ns mainGlobals mg) (c : He.SaysD faL fnL K) : GvK P w K mg base XR 4 "is_surface" (.fn 1 none p_is_surface) := by
  obtain ⟨fd, F⟩ := c.def_ 10 (d := d_is_surface) rfl
  exact ⟨_, fd, ps_is_surface, rfl, fn_den (fun_nodef F) sc_is_surface (gl_cons ((ok_is_ascending X G c).mono (by decide)) (gl_cons ((ok_is_tuple_of X G c).mono (by decide)) (gl_cons ((ok_is_whole X G c).mono (by decide)) (gl_cons (gv_int (He.int_ok X G (c.fact 31 (f := .int "RIMS" (8)) rfl))) (gl_cons (gv_free (He.free_ok X G (c.fact 27 (f := .free "all") rfl))) (gl_cons (gv_int (He.int_ok X G (c.fact 32 (f := .int "SHUT" (20)) rfl))) (gl_cons ((ok_is_rising X G c).mono (by decide)) (gl_cons ((ok_all_once X G c).mono (by decide)) (gl_cons ((ok_is_part X G c).mono (by decide)) (gl_cons (gv_int (He.int_ok X G (c.fact 30 (f := .int "HOLES" (60)) rfl))) (gl_nil))))))))))) dn_is_surface, He.glo_ok X G (c.fact 10 (f := .glo "is_surface") rfl), F.kp, F.bindsN (ps := ps_is_surface) fun _ _ _ _ _ _ us hl => match us, hl with | [_], _ => rfl⟩
theorem ok__law_written_right (X : K.In h) (G : h.Ns mainGlobals mg) (c : He.SaysD faL fnL K) : GvK P w K mg base XR 23 "_law_written_right" (.fn 0 none p__law_written_right) := by
  obtain ⟨fd, F⟩ := c.def_ 11 (d := d__law_written_right) rfl
  exact ⟨_, fd, ps__law_written_right, rfl, fn_den (fun_nodef F) sc__law_written_right (gl_cons ((ok__law_like X G c 20).mono (by decide)) (gl_cons ((ok_is_surface X G c).mono (by decide)) (gl_cons (gv_free (He.free_ok X G (c.fact 24 (f := .free "tuple") rfl))) (gl_cons (gv_free (He.free_ok X G (c.fact 29 (f := .free "range") rfl))) (gl_nil))))) dn__law_written_right, He.glo_ok X G (c.fact 11 (f := .glo "_law_written_right") rfl), F.kp, F.bindsN (ps := ps__law_written_right) fun _ _ _ _ _ _ us hl => match us, hl with | [], _ => rfl⟩
theorem ok__law_roll (X : K.In h) (G : h.Ns mainGlobals mg) (c : He.SaysD faL fnL K) : GvK P w K mg base XR 1 "_law_roll" (.fn 2 (some 0) p__law_roll) := by
  obtain ⟨fd, F⟩ := c.def_ 12 (d := d__law_roll) rfl
  exact ⟨_, fd, ps__law_roll, rfl, fn_den (fun_nodef F) sc__law_roll (gl_cons (gv_free (He.free_ok X G (c.fact 19 (f := .free "int") rfl))) (gl_nil)) dn__law_roll, He.glo_ok X G (c.fact 12 (f := .glo "_law_roll") rfl), F.kp, F.bindsN (ps := ps__law_roll) fun _ _ _ _ _ _ us hl => match us, hl with | [_, _], _ => rfl⟩
theorem ok__law_surface (X : K.In h) (G : h.Ns mainGlobals mg) (c : He.SaysD faL fnL K) : GvK P w K mg base XR 2 "_law_surface" (.fn 1 (some 0) p__law_surface) := by
  obtain ⟨fd, F⟩ := c.def_ 13 (d := d__law_surface) rfl
  exact ⟨_, fd, ps__law_surface, rfl, fn_den (fun_nodef F) sc__law_surface (gl_cons (gv_free (He.free_ok X G (c.fact 29 (f := .free "range") rfl))) (gl_cons ((ok__law_roll X G c).mono (by decide)) (gl_cons (gv_free (He.free_ok X G (c.fact 24 (f := .free "tuple") rfl))) (gl_cons (gv_free (He.free_ok X G (c.fact 28 (f := .free "sorted") rfl))) (gl_nil))))) dn__law_surface, He.glo_ok X G (c.fact 13 (f := .glo "_law_surface") rfl), F.kp, F.bindsN (ps := ps__law_surface) fun _ _ _ _ _ _ us hl => match us, hl with | [_], _ => rfl⟩
theorem ok__law_some (X : K.In h) (G : h.Ns mainGlobals mg) (c : He.SaysD faL fnL K) : GvK P w K mg base XR 2 "_law_some" (.fn 2 (some 0) p__law_some) := by
  obtain ⟨fd, F⟩ := c.def_ 14 (d := d__law_some) rfl
  exact ⟨_, fd, ps__law_some, rfl, fn_den (fun_nodef F) sc__law_some (gl_cons ((ok__law_roll X G c).mono (by decide)) (gl_cons (gv_free (He.free_ok X G (c.fact 25 (f := .free "len") rfl))) (gl_nil))) dn__law_some, He.glo_ok X G (c.fact 14 (f := .glo "_law_some") rfl), F.kp, F.bindsN (ps := ps__law_some) fun _ _ _ _ _ _ us hl => match us, hl with | [_, _], _ => rfl⟩
theorem ok__law_bent (X : K.In h) (G : h.Ns mainGlobals mg) (c : He.SaysD faL fnL K) : GvK P w K mg base XR 3 "_law_bent" (.fn 2 (some 0) p__law_bent) := by
  obtain ⟨fd, F⟩ := c.def_ 15 (d := d__law_bent) rfl
  exact ⟨_, fd, ps__law_bent, rfl, fn_den (fun_nodef F) sc__law_bent (gl_cons ((ok__law_roll X G c).mono (by decide)) (gl_cons ((ok__law_some X G c).mono (by decide)) (gl_cons (gv_free (He.free_ok X G (c.fact 20 (f := .free "list") rfl))) (gl_cons (gv_free (He.free_ok X G (c.fact 25 (f := .free "len") rfl))) (gl_nil))))) dn__law_bent, He.glo_ok X G (c.fact 15 (f := .glo "_law_bent") rfl), F.kp, F.bindsN (ps := ps__law_bent) fun _ _ _ _ _ _ us hl => match us, hl with | [_, _], _ => rfl⟩
theorem ok__law_surfaces_right (X : K.In h) (G : h.Ns mainGlobals mg) (c : He.SaysD faL fnL K) : GvK P w K mg base XR 23 "_law_surfaces_right" (.fn 1 (some 0) p__law_surfaces_right) := by
  obtain ⟨fd, F⟩ := c.def_ 16 (d := d__law_surfaces_right) rfl
  exact ⟨_, fd, ps__law_surfaces_right, rfl, fn_den (fun_nodef F) sc__law_surfaces_right (gl_cons ((ok__law_surface X G c).mono (by decide)) (gl_cons ((ok__law_bent X G c).mono (by decide)) (gl_cons ((ok__law_like X G c 20).mono (by decide)) (gl_cons ((ok_is_surface X G c).mono (by decide)) (gl_cons (gv_free (He.free_ok X G (c.fact 20 (f := .free "list") rfl))) (gl_cons (gv_free (He.free_ok X G (c.fact 25 (f := .free "len") rfl))) (gl_nil))))))) dn__law_surfaces_right, He.glo_ok X G (c.fact 16 (f := .glo "_law_surfaces_right") rfl), F.kp, F.bindsN (ps := ps__law_surfaces_right) fun _ _ _ _ _ _ us hl => match us, hl with | [_], _ => rfl⟩
theorem ok_law (X : K.In h) (G : h.Ns mainGlobals mg) (c : He.SaysD faL fnL K) : GvK P w K mg base XR 24 "law" (.fn 1 none p_law) := by
  obtain ⟨fd, F⟩ := c.def_ 17 (d := d_law) rfl
  exact ⟨_, fd, ps_law, rfl, fn_den (fun_nodef F) sc_law (gl_cons ((ok__law_cup X G c).mono (by decide)) (gl_cons (gv_free (He.free_ok X G (c.fact 29 (f := .free "range") rfl))) (gl_cons ((ok__law_written_right X G c).mono (by decide)) (gl_cons ((ok__law_surfaces_right X G c).mono (by decide)) (gl_nil))))) dn_law, He.glo_ok X G (c.fact 17 (f := .glo "law") rfl), F.kp, F.bindsN (ps := ps_law) fun _ _ _ _ _ _ us hl => match us, hl with | [_], _ => rfl⟩
theorem fk_law {fd : FuncData} (X : K.In h) (G : h.Ns mainGlobals mg) (c : He.SaysD faL fnL K) (F : FunD K "law" "law" (defArgs st_law) (defBody st_law) (defScope st_law) [] [] (He.ga K "law") fd) : FnOk P w K mg base (L2.CX P w) 24 (He.ga K "law") fd ps_law (spP K XR 1 p_law) := fn_den (fun_nodef F) sc_law (gl_cons ((ok__law_cup X G c).mono (by decide)) (gl_cons (gv_free (He.free_ok X G (c.fact 29 (f := .free "range") rfl))) (gl_cons ((ok__law_written_right X G c).mono (by decide)) (gl_cons ((ok__law_surfaces_right X G c).mono (by decide)) (gl_nil))))) dn_law
end
end La
set_option Elab.async false
set_option linter.all false
set_option maxRecDepth 100000
set_option maxHeartbeats 1000000
namespace La
open PySem L2 PyProof.Rows Pu
def wholeD (v : D) (lo hi : Int) : Bool := match v with
  | .int i => decide (lo ≤ i) && decide (i ≤ hi)
  | _ => false
theorem is_whole (v : D) (lo hi : Int) : resV (p_is_whole [.frz v, .frz (.int lo), .frz (.int hi)]) = some (.fz (.bool (wholeD v lo hi))) := by
  refine pf_ans ?_
  unfold m_is_whole
  cases v <;> simp [wholeD]
  by_cases h : lo ≤ ‹Int› <;> simp [h] <;> omega
def tupD (v : D) (lo hi : Int) : Bool := match v with
  | .tuple xs => decide (lo ≤ xs.length) && decide ((xs.length : Int) ≤ hi)
  | _ => false
theorem is_tuple_of (v : D) (lo hi : Int) : resV (p_is_tuple_of [.frz v, .frz (.int lo), .frz (.int hi)]) = some (.fz (.bool (tupD v lo hi))) := by
  refine pf_ans ?_
  unfold m_is_tuple_of
  cases v <;> simp [tupD]
  rename_i xs
  by_cases h : lo ≤ xs.length <;> simp [h] <;> omega
/-- next to one another, lt -/
def adj (lt : D → D → Bool) : List D → Bool
  | x :: y :: r => lt x y && adj lt (y :: r)
  | _ => true
theorem adj_pairs (lt : D → D → Bool) : ∀ xs : List D, ((pairs xs xs.tail).all fun p => match p with
    | .tuple [x, y] => lt x y
    | _ => false) = adj lt xs
  | [] => rfl
  | [_] => rfl
  | x :: y :: r => by
    have ih := adj_pairs lt (y :: r)
    show (lt x y && (pairs (y :: r) r).all _) = (lt x y && adj lt (y :: r))
    rw [← ih]
    rfl
theorem pairs_mem {p : D} : ∀ {xs ys : List D}, p ∈ pairs xs ys → ∃ x y, x ∈ xs ∧ y ∈ ys ∧ p = .tuple [x, y]
  | [], _, h => by simp [pairs] at h
  | _ :: _, [], h => by simp [pairs] at h
  | x :: xs, y :: ys, h => by
    rcases List.mem_cons.mp h with e | h
    · exact ⟨x, y, List.mem_cons_self, List.mem_cons_self, e⟩
    · obtain ⟨a, b, ha, hb, e⟩ := pairs_mem h
      exact ⟨a, b, List.mem_cons_of_mem _ ha, List.mem_cons_of_mem _ hb, e⟩
theorem pairs_len : ∀ {xs ys : List D}, (pairs xs ys).length ≤ xs.length
  | [], _ => by simp [pairs]
  | _ :: _, [] => by simp [pairs]
  | x :: xs, y :: ys => by simp [pairs]; exact pairs_len
theorem is_ascending {xs : List D} (lt : D → D → Bool) (hl : xs.length ≤ lim) (h : ∀ x ∈ xs, ∀ y ∈ xs, fLt x y = some (.fz (.bool (lt x y)))) : resV (p_is_ascending [.frz (.tuple xs)]) = some (.fz (.bool (adj lt xs))) := by
  refine pf_ans ?_
  unfold m_is_ascending
  simp only [wd_blk_cons, x_mRet, wd_bind]
  refine wd_all (fun p => match p with
    | .tuple [x, y] => lt x y
    | _ => false) ?_
  have e1 : cutD xs (some 1) none = xs.drop 1 := cutD_from (lo := 1)
  simp [e1, optM]
  refine ⟨Nat.le_trans pairs_len hl, fun d hd => ?_, adj_pairs lt xs⟩
  obtain ⟨x, y, hx, hy, rfl⟩ := pairs_mem hd
  simp [wipeE, over, h x hx y (List.mem_of_mem_tail hy)]
theorem is_rising {xs : List D} (lt : D → D → Bool) (hl : xs.length ≤ lim) (h : ∀ x ∈ xs, ∀ y ∈ xs, fLe x y = some (.fz (.bool (lt x y)))) : resV (p_is_rising [.frz (.tuple xs)]) = some (.fz (.bool (adj lt xs))) := by
  refine pf_ans ?_
  unfold m_is_rising
  simp only [wd_blk_cons, x_mRet, wd_bind]
  refine wd_all (fun p => match p with
    | .tuple [x, y] => lt x y
    | _ => false) ?_
  have e1 : cutD xs (some 1) none = xs.drop 1 := cutD_from (lo := 1)
  simp [e1, optM]
  refine ⟨Nat.le_trans pairs_len hl, fun d hd => ?_, adj_pairs lt xs⟩
  obtain ⟨x, y, hx, hy, rfl⟩ := pairs_mem hd
  simp [wipeE, over, h x hx y (List.mem_of_mem_tail hy)]
/-! ### typed data -/
def tI (ns : List Int) : D := .tuple (ns.map PyData.int)
def adjI (lt : Int → Int → Bool) : List Int → Bool
  | x :: y :: r => lt x y && adjI lt (y :: r)
  | _ => true
def ltD (x y : D) : Bool := match x, y with
  | .int i, .int j => decide (i < j)
  | x, y => PySem.W.dataLt x y
def leI (x y : D) : Bool := match x, y with
  | .int i, .int j => decide (i ≤ j)
  | _, _ => false
theorem adj_ints (lt : D → D → Bool) (g : Int → Int → Bool) (h : ∀ i j, lt (.int i) (.int j) = g i j) : ∀ ns : List Int, adj lt (ns.map PyData.int) = adjI g ns
  | [] => rfl
  | [_] => rfl
  | x :: y :: r => by
    have ih := adj_ints lt g h (y :: r)
    show (lt (.int x) (.int y) && adj lt ((y :: r).map PyData.int)) = (g x y && adjI g (y :: r))
    rw [ih, h]
def setI (ns : List Int) (many : Int) : Bool := (ns.all fun i => decide (0 ≤ i) && decide (i ≤ many - 1)) && adjI (fun i j => decide (i < j)) ns
theorem is_set_below {ns : List Int} {many : Int} (hl : ns.length ≤ lim) : resV (p_is_set_below [.frz (tI ns), .frz (.int many)]) = some (.fz (.bool (setI ns many))) := by
  refine pf_ans ?_
  unfold m_is_set_below
  have ha : resV (p_is_ascending [.frz (tI ns)]) = some (.fz (.bool (adjI (fun i j => decide (i < j)) ns))) := by
    rw [tI, is_ascending ltD (by simpa using hl), adj_ints ltD (fun i j => decide (i < j)) (fun i j => rfl)]
    intro x hx y hy
    obtain ⟨i, _, rfl⟩ := List.mem_map.mp hx
    obtain ⟨j, _, rfl⟩ := List.mem_map.mp hy
    rfl
  simp [tI]
  refine wd_compB (fun v => wholeD v 0 (many - 1)) ?_
  simp [hl]
  refine ⟨fun i hi => ?_, fun l hl => ?_⟩
  · simp [wipeE, over, is_whole]
  · rw [tI] at ha
    simp [hl, ha]
    refine ⟨fun h => ?_, fun x hx h => ?_⟩
    · have e : (ns.all fun i => decide (0 ≤ i) && decide (i ≤ many - 1)) = true := List.all_eq_true.mpr fun i hi => h i hi
      rw [setI, e, Bool.true_and]
    · have e : (ns.all fun i => decide (0 ≤ i) && decide (i ≤ many - 1)) = false := by
        cases q : (ns.all fun i => decide (0 ≤ i) && decide (i ≤ many - 1)) with
        | false => rfl
        | true =>
          have z := List.all_eq_true.mp q x hx
          exact absurd (h.symm.trans z) (by decide)
      rw [setI, e, Bool.false_and]
/-- a part: its rims in and out, its holes -/
structure Pt where
  ins : List Int
  outs : List Int
  h : D
def Pt.enc (p : Pt) : D := .tuple [tI p.ins, tI p.outs, p.h]
def partB (ri ro : Int) (p : Pt) : Bool := wholeD p.h 0 60 && (setI p.ins ri && (setI p.outs ro && (!p.ins.isEmpty || !p.outs.isEmpty)))
theorem ne_unit {ns : List Int} : fNe (tI ns) (.tuple []) = some (.fz (.bool (!ns.isEmpty))) := by
  unfold fNe tI
  have e : small (.tuple (ns.map PyData.int)) (.tuple []) = true := by
    unfold small
    rw [PyData.depth, PyData.depth, PyData.depthAll, depth_ints]
    rfl
  rw [if_pos e, PyData.eqv]
  cases ns <;> simp [PyData.eqvAll]
theorem eq_unit {ns : List Int} : fEq (tI ns) (.tuple []) = some (.fz (.bool ns.isEmpty)) := by
  unfold fEq tI
  have e : small (.tuple (ns.map PyData.int)) (.tuple []) = true := by
    unfold small
    rw [PyData.depth, PyData.depth, PyData.depthAll, depth_ints]
    rfl
  rw [if_pos e, PyData.eqv]
  cases ns <;> simp [PyData.eqvAll]
theorem is_part {p : Pt} {ri ro : Int} (h1 : p.ins.length ≤ lim) (h2 : p.outs.length ≤ lim) : resV (p_is_part [.frz p.enc, .frz (.int ri), .frz (.int ro)]) = some (.fz (.bool (partB ri ro p))) := by
  refine pf_ans ?_
  unfold m_is_part
  have e1 : ∀ v, tupD (.tuple [tI p.ins, tI p.outs, v]) 3 3 = true := fun v => rfl
  simp [Pt.enc, is_tuple_of, is_whole, e1, is_set_below h1, is_set_below h2, fTup, ne_unit]
  unfold partB
  by_cases a : wholeD p.h 0 60 = true <;> by_cases b : setI p.ins ri = true <;> by_cases c : setI p.outs ro = true <;> simp [a, b, c]
  by_cases e : p.ins = [] <;> simp [e]
/-! ### each rim once -/
def sortI (ns : List Int) : List Int := isort (fun a b => leD (.int a) (.int b)) ns
theorem sortsOk_ints {ns : List Int} (h : ns.length ≤ lim) : sortsOk (ns.map PyData.int) = true := by
  unfold sortsOk
  simp [PySem.W.alike, PyData.depth]
  exact h
theorem sorted_ints {ns : List Int} (h : ns.length ≤ lim) : fSorted [.list (ns.map PyData.int)] = some (.fr ((sortI ns).map PyData.int)) := by
  show (if sortsOk (ns.map PyData.int) = true then some (RV.fr (isort leD (ns.map PyData.int))) else none) = _
  rw [if_pos (sortsOk_ints h), sortI, isort_map]
def rngI (n : Int) : List Int := (List.range n.toNat).map fun i => ((i : Nat) : Int)
theorem rg_list {n : Int} (h0 : 0 ≤ n) (h : n ≤ 1000000) : fRL1 (.int n) = some (.fr ((rngI n).map PyData.int)) := by
  show (if rgFit 0 n = true then some (RV.fr (rgD 0 n)) else none) = _
  have e : rgFit 0 n = true := by
    unfold rgFit rgOk
    simp
    omega
  rw [if_pos e]
  unfold rgD rngI
  simp
theorem eq_lists {ns ms : List Int} : fEq (.list (ns.map PyData.int)) (.list (ms.map PyData.int)) = some (.fz (.bool (decide (ns = ms)))) := by
  unfold fEq
  have e : small (.list (ns.map PyData.int)) (.list (ms.map PyData.int)) = true := by
    unfold small
    rw [PyData.depth, PyData.depth, depth_ints, depth_ints]
    rfl
  rw [if_pos e, PyData.eqv, eqv_ints]
def onceB (lots : List (List Int)) (many : Int) : Bool := decide (sortI lots.flatten = rngI many)
def Iall (lots : List (List Int)) (many : Int) (dn : List D) (ρ : Ev) : Prop := ∃ (ls : List (List Int)) (x : Option Sl), dn = ls.map tI ∧ ni x = true ∧ ρ = [some (.frz (.list (lots.map tI))), some (.frz (.int many)), some (.own (ls.flatten.map PyData.int)), x]
theorem map_mid {α β : Type} {f : α → β} : ∀ {l : List α} {a : List β} {x : β} {b : List β}, l.map f = a ++ x :: b → ∃ (a' : List α) (x' : α) (b' : List α), l = a' ++ x' :: b' ∧ a = a'.map f ∧ x = f x' ∧ b = b'.map f := fun {l a x b} h => by
  obtain ⟨l1, l2, rfl, h1, h2⟩ := List.map_eq_append_iff.mp h
  obtain ⟨y, l3, rfl, h3, h4⟩ := List.map_eq_cons_iff.mp h2
  exact ⟨l1, y, l3, rfl, h1.symm, h3.symm, h4.symm⟩
theorem map_inj {α β : Type} {f : α → β} (hf : ∀ a b, f a = f b → a = b) : ∀ {l m : List α}, l.map f = m.map f → l = m
  | [], [], _ => rfl
  | [], _ :: _, h => by simp at h
  | _ :: _, [], h => by simp at h
  | a :: l, b :: m, h => by
    simp only [List.map_cons, List.cons.injEq] at h
    rw [hf _ _ h.1, map_inj hf h.2]
theorem int_inj : ∀ a b : Int, PyData.int a = PyData.int b → a = b := fun a b h => by cases h; rfl
theorem tI_inj : ∀ a b, tI a = tI b → a = b := fun a b h => by
  unfold tI at h
  simp only [PyData.tuple.injEq] at h
  exact map_inj int_inj h
theorem add_ints {ns ms : List Int} (h : ns.length + ms.length ≤ lim) : fAdd (.list (ns.map PyData.int)) (.list (ms.map PyData.int)) = some (.fr ((ns ++ ms).map PyData.int)) := by
  show (if (ns.map PyData.int).length + (ms.map PyData.int).length ≤ lim then some (RV.fr (ns.map PyData.int ++ ms.map PyData.int)) else none) = _
  rw [List.length_map, List.length_map, if_pos h, List.map_append]
theorem all_once {lots : List (List Int)} {many : Int} (h0 : 0 ≤ many) (h1 : many ≤ 1000000) (hl : lots.flatten.length ≤ lim) : resV (p_all_once [.frz (.list (lots.map tI)), .frz (.int many)]) = some (.fz (.bool (onceB lots many))) := by
  refine pf_ans ?_
  unfold m_all_once
  simp [fLst]
  refine wd_for (Iall lots many) ?_
  simp
  refine ⟨⟨[], none, rfl, rfl, rfl⟩, fun dn d rest ρ e ⟨ls, x, e1, hx, e2⟩ => ?_, fun ρ ⟨ls, x, e1, hx, e2⟩ => ?_⟩
  · subst e2
    obtain ⟨a, y, b, ea, eb, ed, _⟩ := map_mid e
    have els : ls = a := map_inj tI_inj (e1.symm.trans eb)
    subst els; subst ed
    have hlen : ls.flatten.length + y.length ≤ lim := by
      rw [ea] at hl
      simp at hl
      show ls.flatten.length + y.length ≤ 16777216
      have hl : ls.flatten.length + (y.length + b.flatten.length) ≤ 16777216 := by simpa using hl
      omega
    have fin : Iall lots many (dn ++ [tI y]) [some (.frz (.list (lots.map tI))), some (.frz (.int many)), some (.own ((ls.flatten ++ y).map PyData.int)), some (.frz (tI y))] :=
      ⟨ls ++ [y], some (.frz (tI y)), by rw [e1]; simp, rfl, by simp⟩
    have ef : fList [tI y] = some (.fr (y.map PyData.int)) := rfl
    simp [hx, ef, -List.map_flatten, add_ints hlen]
    rw [List.map_append] at fin
    exact fin
  · subst e2
    have els : lots = ls := map_inj tI_inj e1
    subst els
    simp [-List.map_flatten, sorted_ints hl, rg_list h0 h1, eq_lists, onceB]
end La
set_option Elab.async false
set_option linter.all false
set_option maxRecDepth 100000
set_option maxHeartbeats 2000000
namespace La
open PySem L2 PyProof.Rows Pu
def partD (ri ro : Int) (d : D) : Bool := match resV (p_is_part [.frz d, .frz (.int ri), .frz (.int ro)]) with
  | some (.fz (.bool b)) => b
  | _ => false
/-- lists of a size that the words can carry -/
def Small (ps : List Pt) : Prop := ps.length ≤ 100 ∧ ∀ p ∈ ps, p.ins.length ≤ 100 ∧ p.outs.length ≤ 100
theorem lim100 {n : Nat} (h : n ≤ 100) : n ≤ lim := Nat.le_trans h (by decide)
theorem flat_len {α : Type} (f : Pt → List α) : ∀ {ps : List Pt}, (∀ p ∈ ps, (f p).length ≤ 100) → (ps.map f).flatten.length ≤ 100 * ps.length
  | [], _ => by simp
  | p :: ps, h => by
    have a := h p List.mem_cons_self
    have b := flat_len f (ps := ps) fun q hq => h q (List.mem_cons_of_mem _ hq)
    simp only [List.map_cons, List.flatten_cons, List.length_append, List.length_cons]
    omega
def surfB (ri ro : Int) (ps : List Pt) (sh : List D) : Bool :=
  wholeD (.int ri) 0 8 && (wholeD (.int ro) 0 8 && (decide (ps.length ≤ 16) && (ps.all (partB ri ro) && (decide (sh.length ≤ 20) && (sh.all (fun v => wholeD v 0 60) && (adj leI sh && (onceB (ps.map Pt.ins) ri && (onceB (ps.map Pt.outs) ro && adj ltD (ps.map Pt.enc)))))))))
def surf (ri ro : Int) (ps : List Pt) (sh : List D) : D := .tuple [.int ri, .int ro, .tuple (ps.map Pt.enc), .tuple sh]
theorem le_whole {x y : D} {a b c d : Int} (hx : wholeD x a b = true) (hy : wholeD y c d = true) : fLe x y = some (.fz (.bool (leI x y))) := by
  cases x <;> simp [wholeD] at hx
  cases y <;> simp [wholeD] at hy
  simp [leI]
theorem lt_parts {p q : Pt} {i j : Int} (hp : p.h = .int i) (hq : q.h = .int j) : fLt p.enc q.enc = some (.fz (.bool (ltD p.enc q.enc))) := by
  unfold Pt.enc tI
  rw [hp, hq]
  show (if small _ _ = true ∧ PySem.W.alike _ _ = true ∧ isNon _ = false then _ else none) = _
  have e1 : small (.tuple [.tuple (p.ins.map PyData.int), .tuple (p.outs.map PyData.int), .int i]) (.tuple [.tuple (q.ins.map PyData.int), .tuple (q.outs.map PyData.int), .int j]) = true := by
    unfold small
    simp [PyData.depth, PyData.depthAll, depth_ints]
  have e2 : PySem.W.alike (.tuple [.tuple (p.ins.map PyData.int), .tuple (p.outs.map PyData.int), .int i]) (.tuple [.tuple (q.ins.map PyData.int), .tuple (q.outs.map PyData.int), .int j]) = true := by
    simp [PySem.W.alike, PySem.W.alikeAll, alike_ints]
  rw [if_pos ⟨e1, e2, rfl⟩]
  rfl
theorem is_surface {ri ro : Int} {ps : List Pt} {sh : List D} (hs : Small ps) (hs2 : sh.length ≤ 100) : resV (p_is_surface [.frz (surf ri ro ps sh)]) = some (.fz (.bool (surfB ri ro ps sh))) := by
  refine pf_ans ?_
  unfold m_is_surface
  have t4 : tupD (surf ri ro ps sh) 4 4 = true := rfl
  have e16 : fMul (.int 2) (.int 8) = some (.fz (.int 16)) := by rfl
  have l1 : (ps.map Pt.enc).length ≤ lim := by rw [List.length_map]; exact lim100 hs.1
  have fi : (ps.map Pt.ins).flatten.length ≤ lim := Nat.le_trans (flat_len Pt.ins fun p hp => (hs.2 p hp).1) (Nat.le_trans (Nat.mul_le_mul_left 100 hs.1) (by decide))
  have fo : (ps.map Pt.outs).flatten.length ≤ lim := Nat.le_trans (flat_len Pt.outs fun p hp => (hs.2 p hp).2) (Nat.le_trans (Nat.mul_le_mul_left 100 hs.1) (by decide))
  rw [surf] at t4
  have tp : tupD (.tuple (ps.map Pt.enc)) 0 16 = decide (ps.length ≤ 16) := by
    unfold tupD
    simp
    omega
  have ts : tupD (.tuple sh) 0 20 = decide (sh.length ≤ 20) := by
    unfold tupD
    simp
    omega
  simp [surf, is_tuple_of, is_whole, t4, e16, tp]
  refine ⟨fun h1 => ?_, fun h1 => by simp [h1, surfB]⟩
  refine ⟨fun h2 => ?_, fun h2 => by simp [h1, h2, surfB]⟩
  refine ⟨fun h3 => ?_, fun h3 => by simp [h1, h2, Nat.not_le.mpr h3, surfB]⟩
  refine wd_compB (partD ri ro) ?_
  have hp0 : ∀ p ∈ ps, resV (p_is_part [.frz p.enc, .frz (.int ri), .frz (.int ro)]) = some (.fz (.bool (partB ri ro p))) := fun p hp => is_part (lim100 (hs.2 p hp).1) (lim100 (hs.2 p hp).2)
  have hpD : ∀ p ∈ ps, partD ri ro p.enc = partB ri ro p := fun p hp => by unfold partD; rw [hp0 p hp]
  have pall : (ps.map Pt.enc).all (partD ri ro) = ps.all (partB ri ro) := by
    rw [List.all_map, Bool.eq_iff_iff, List.all_eq_true, List.all_eq_true]
    refine forall_congr' fun p => forall_congr' fun hp => ?_
    rw [← hpD p hp]
    rfl
  have l1' : ps.length ≤ lim := lim100 hs.1
  simp [-List.all_map, l1', pall]
  refine ⟨fun p hp => by simp [wipeE, over, hp0 p hp, hpD p hp], fun l hl => ?_⟩
  obtain ⟨b4, hb4⟩ : ∃ b, ps.all (partB ri ro) = b := ⟨_, rfl⟩
  rw [hb4] at hl
  obtain ⟨b5, hb5⟩ : ∃ b, decide (sh.length ≤ 20) = b := ⟨_, rfl⟩
  rw [hb5] at ts
  simp [hl, is_tuple_of, ts]
  refine ⟨fun h4 => ?_, fun h4 => by simp [h1, h2, h3, hb4, h4, surfB]⟩
  refine ⟨fun h5 => ?_, fun h5 => by simp [h1, h2, h3, hb4, h4, hb5, h5, surfB]⟩
  refine wd_compB (fun v => wholeD v 0 60) ?_
  obtain ⟨b6, hb6⟩ : ∃ b, (sh.all fun v => wholeD v 0 60) = b := ⟨_, rfl⟩
  have l2' : sh.length ≤ lim := lim100 hs2
  simp [-List.all_eq_true, l2', hb6]
  refine ⟨fun v hv => by simp [wipeE, over, is_whole], fun l hl => ?_⟩
  simp [hl]
  refine ⟨fun h6 => ?_, fun h6 => by simp [h1, h2, h3, hb4, h4, hb5, h5, hb6, h6, surfB]⟩
  have hsh : ∀ v ∈ sh, wholeD v 0 60 = true := fun v hv => List.all_eq_true.mp (hb6.trans h6) v hv
  have hri : resV (p_is_rising [.frz (.tuple sh)]) = some (.fz (.bool (adj leI sh))) := is_rising leI l2' fun x hx y hy => le_whole (hsh x hx) (hsh y hy)
  simp [hri]
  refine ⟨fun h7 => ?_, fun h7 => by simp [h1, h2, h3, hb4, h4, hb5, h5, hb6, h6, h7, surfB]⟩
  refine wd_compM (fun d => match d with
    | .tuple (x :: _) => x
    | _ => .none) ?_
  have ei : ((ps.map Pt.enc).map fun d => match d with
    | .tuple (x :: _) => x
    | _ => .none) = (ps.map Pt.ins).map tI := by
    rw [List.map_map, List.map_map]
    rfl
  simp [-List.map_map, l1', ei]
  refine ⟨fun p hp => by simp [wipeE, over, Pt.enc], ?_⟩
  have hr : ∀ {r : Int}, wholeD (.int r) 0 8 = true → 0 ≤ r ∧ r ≤ 1000000 := fun {r} h => by
    simp [wholeD] at h
    omega
  have o1 := all_once (lots := ps.map Pt.ins) (hr h1).1 (hr h1).2 fi
  have o2 := all_once (lots := ps.map Pt.outs) (hr h2).1 (hr h2).2 fo
  simp [-List.map_map, o1]
  refine ⟨fun h8 => ?_, fun h8 => by simp [h1, h2, h3, hb4, h4, hb5, h5, hb6, h6, h7, h8, surfB]⟩
  refine wd_compM (fun d => match d with
    | .tuple (_ :: x :: _) => x
    | _ => .none) ?_
  have eo : ((ps.map Pt.enc).map fun d => match d with
    | .tuple (_ :: x :: _) => x
    | _ => .none) = (ps.map Pt.outs).map tI := by
    rw [List.map_map, List.map_map]
    rfl
  simp [-List.map_map, l1', eo]
  refine ⟨fun p hp => by simp [wipeE, over, Pt.enc], ?_⟩
  simp [-List.map_map, o2]
  refine ⟨fun h9 => ?_, fun h9 => by simp [h1, h2, h3, hb4, h4, hb5, h5, hb6, h6, h7, h8, h9, surfB]⟩
  have hint : ∀ p ∈ ps, ∃ i, p.h = .int i := fun p hp => by
    have z := List.all_eq_true.mp (hb4.trans h4) p hp
    unfold partB wholeD at z
    cases e : p.h <;> rw [e] at z <;> simp at z
    exact ⟨_, rfl⟩
  have ha : resV (p_is_ascending [.frz (.tuple (ps.map Pt.enc))]) = some (.fz (.bool (adj ltD (ps.map Pt.enc)))) := is_ascending ltD l1 fun x hx y hy => by
    obtain ⟨p, hp, rfl⟩ := List.mem_map.mp hx
    obtain ⟨q, hq, rfl⟩ := List.mem_map.mp hy
    obtain ⟨i, ei⟩ := hint p hp
    obtain ⟨j, ej⟩ := hint q hq
    exact lt_parts ei ej
  simp [ha, h1, h2, h3, hb4, h4, hb5, h5, hb6, h6, h7, h8, h9, surfB]
end La
set_option Elab.async false
set_option linter.all false
set_option maxRecDepth 100000
set_option maxHeartbeats 2000000
namespace La
open PySem L2 PyProof.Rows Pu
def Cup (xs : List D) : Prop := ∃ a b : Int, xs = [.int a, .int b] ∧ 0 ≤ a ∧ 0 ≤ b
@[simp] theorem ixN_20 : ixN 2 0 = some 0 := rfl
@[simp] theorem ixN_21 : ixN 2 1 = some 1 := rfl
theorem mod_ii {i j : Int} (h : 0 < j) : fMod (.int i) (.int j) = some (.fz (.int (i % j))) := if_pos h
theorem div_ii {i j : Int} (h : 0 < j) (h2 : j < 1073741824) : fDiv (.int i) (.int j) = some (.fz (.int (i / j))) := if_pos ⟨h, h2⟩
theorem mul_small {i j : Int} (h0 : -18446744073709551616 < j) (h : j < 18446744073709551616) : fMul (.int i) (.int j) = some (.fz (.int (i * j))) := by
  show (if mulOk i j = true then some (RV.fz (.int (i * j))) else none) = _
  rw [if_pos]
  unfold mulOk
  rw [decide_eq_true h0, decide_eq_true h]
  simp
theorem roll_ok {xs : List D} (hc : Cup xs) {many : Int} (h0 : 0 < many) (h1 : many < 1073741824) : ∃ r ys rest, p__law_roll [.io xs, .frz (.int many)] = .ok (.fz (.int r)) (some (.io ys) :: rest) ∧ Cup ys ∧ 0 ≤ r ∧ r < many := by
  obtain ⟨a, b, rfl, ha, hb⟩ := hc
  have z : Wd (m__law_roll [some (.io [.int a, .int b]), some (.frz (.int many)), none]) fun f ρ => ∃ r ys rest, f = .ret (.fz (.int r)) ∧ ρ = some (.io ys) :: rest ∧ Cup ys ∧ 0 ≤ r ∧ r < many := by
    unfold m__law_roll
    simp [mod_ii h0, div_ii h0 h1, mul_small, mod_ii, div_ii]
    refine ⟨fun _ => ⟨⟨_, _, rfl, Int.ediv_nonneg ha (by omega), hb⟩, Int.emod_nonneg _ (by omega), Int.emod_lt_of_pos _ h0⟩,
      fun _ => ⟨⟨_, _, rfl, ha, Int.emod_nonneg _ (by omega)⟩, Int.emod_nonneg _ (by omega), Int.emod_lt_of_pos _ h0⟩⟩
  obtain ⟨f, ρ, e, r, ys, rest, rfl, rfl, h2, h3, h4⟩ := z.get
  exact ⟨r, ys, rest, pf_ret e, h2, h3, h4⟩
/-- a call of the roll -/
theorem wd_roll {ρ : Ev} {i : Nat} {hs : List Hd} {xs : List D} {many : Int} {Q : Hd → Ev → Prop} (hc : Cup xs) (h0 : 0 < many) (h1 : many < 1073741824) (h : ∀ r ys, Cup ys → 0 ≤ r → r < many → Q (.v (.fz (.int r))) (setAt i ys ρ)) :
    Wd (callBack (.s i :: hs) [.io xs, .frz (.int many)] ρ (p__law_roll [.io xs, .frz (.int many)])) Q := by
  obtain ⟨r, ys, rest, e, h2, h3, h4⟩ := roll_ok hc h0 h1
  rw [e]
  exact h r ys h2 h3 h4
theorem cup_ok (ns : List Int) (hl : ns.length ≤ 63) : ∃ ys, Cup ys ∧ resV (p__law_cup [.frz (.list (dInts ns))]) = some (.fr ys) := by
  have z : Wd (m__law_cup [some (.frz (.list (dInts ns))), none]) fun f ρ => ∃ ys, f = .ret (.fr ys) ∧ Cup ys := by
    unfold m__law_cup dInts
    have ep : fPow (.int 10) (.int 18) = some (.fz (.int 1000000000000000000)) := by rfl
    obtain ⟨m, t, et⟩ : ∃ m t, ns ++ [0] = m :: t := by cases ns with
      | nil => exact ⟨_, _, rfl⟩
      | cons a l => exact ⟨_, _, rfl⟩
    have e1 : fAdd (.list (ns.map PyData.int)) (.list [.int 0]) = some (.fr (.int m :: t.map PyData.int)) := by
      have z := add_ints (ns := ns) (ms := [0]) (by rw [List.length_singleton]; show ns.length + 1 ≤ 16777216; omega)
      rw [et] at z
      exact z
    have ea : fAbs [.int m] = some (.fz (.int (if m < 0 then -m else m))) := rfl
    have hm : 0 ≤ (if m < 0 then -m else m) := by split <;> omega
    generalize (if m < 0 then -m else m) = a at ea hm
    simp [ep, ea, fLst, e1, lim, div_ii, mul_small, mod_ii]
    refine ⟨fun _ => ⟨_, _, rfl, Int.ediv_nonneg hm (by omega), Int.emod_nonneg _ (by omega)⟩, fun _ => ⟨_, _, rfl, by omega, Int.emod_nonneg _ (by omega)⟩⟩
  obtain ⟨f, ρ, e, ys, rfl, h⟩ := z.get
  exact ⟨ys, h, by rw [show p__law_cup [.frz (.list (dInts ns))] = .ok (.fr ys) ρ from pf_ret e]; rfl⟩
end La
set_option Elab.async false
set_option linter.all false
set_option maxRecDepth 100000
set_option maxHeartbeats 2000000
namespace La
open PySem L2 PyProof.Rows Pu
theorem rngI_succ (k : Nat) : rngI ((k + 1 : Nat) : Int) = rngI k ++ [(k : Int)] := by
  unfold rngI
  rw [Int.toNat_natCast, Int.toNat_natCast, List.range_succ, List.map_append]
  rfl
theorem mem_rngI {n x : Int} : x ∈ rngI n ↔ 0 ≤ x ∧ x < n := by
  unfold rngI
  rw [List.mem_map]
  constructor
  · rintro ⟨i, hi, rfl⟩
    have := List.mem_range.mp hi
    omega
  · rintro ⟨h1, h2⟩
    exact ⟨x.toNat, List.mem_range.mpr (by omega), by omega⟩
theorem rngI_up (n : Int) : (rngI n).Pairwise (· < ·) := by
  unfold rngI
  rw [List.pairwise_map]
  exact List.pairwise_lt_range.imp fun h => by omega
theorem flat_set {α : Type} : ∀ {ls : List (List α)} {i : Nat} {l : List α} {x : α}, ls[i]? = some l → (ls.set i (l ++ [x])).flatten.Perm (ls.flatten ++ [x])
  | [], _, _, _, h => by simp at h
  | m :: ls, 0, l, x, h => by
    simp at h
    subst h
    simp only [List.set_cons_zero, List.flatten_cons, List.append_assoc]
    exact List.Perm.append_left _ List.perm_append_comm
  | m :: ls, i + 1, l, x, h => by
    simp at h
    simp only [List.set_cons_succ, List.flatten_cons, List.append_assoc]
    exact List.Perm.append_left _ (flat_set h)
/-- the rims below k, each in one of so many places -/
structure Rims (many : Int) (k : Nat) (ls : List (List Int)) : Prop where
  len : (ls.length : Int) = many
  up : ∀ l ∈ ls, l.Pairwise (· < ·) ∧ ∀ x ∈ l, 0 ≤ x ∧ x < k
  all : ls.flatten.Perm (rngI k)
theorem Rims.init {many : Int} {ls : List (List Int)} (h : (ls.length : Int) = many) (e : ∀ l ∈ ls, l = []) : Rims many 0 ls := by
  refine ⟨h, fun l hl => by rw [e l hl]; simp, ?_⟩
  have : ls.flatten = [] := by
    rw [List.flatten_eq_nil_iff]
    exact e
  rw [this]
  exact List.Perm.refl _
theorem Rims.step {many : Int} {k : Nat} {ls : List (List Int)} (r : Rims many k ls) {i : Nat} {l : List Int} (h : ls[i]? = some l) : Rims many (k + 1) (ls.set i (l ++ [(k : Int)])) := by
  refine ⟨by rw [List.length_set]; exact r.len, fun m hm => ?_, ?_⟩
  · rcases List.mem_or_eq_of_mem_set hm with hm | rfl
    · obtain ⟨h1, h2⟩ := r.up m hm
      exact ⟨h1, fun x hx => by have := h2 x hx; omega⟩
    · obtain ⟨h1, h2⟩ := r.up l (List.mem_of_getElem? h)
      refine ⟨List.pairwise_append.mpr ⟨h1, by simp, fun a ha b hb => ?_⟩, fun x hx => ?_⟩
      · rcases List.mem_singleton.mp hb with rfl
        exact (h2 a ha).2
      · rcases List.mem_append.mp hx with hx | hx
        · have := h2 x hx; omega
        · rcases List.mem_singleton.mp hx with rfl
          omega
  · rw [rngI_succ]
    exact (flat_set h).trans (r.all.append_right _)
theorem adjI_of {g : Int → Int → Bool} : ∀ {ns : List Int}, ns.Pairwise (fun a b => g a b = true) → adjI g ns = true
  | [], _ => rfl
  | [_], _ => rfl
  | x :: y :: r, h => by
    have h1 := List.rel_of_pairwise_cons h (List.mem_cons_self (a := y) (l := r))
    have h2 := adjI_of (g := g) (List.Pairwise.of_cons h)
    show (g x y && adjI g (y :: r)) = true
    rw [h1, h2]
    rfl
theorem adj_of {lt : D → D → Bool} : ∀ {ns : List D}, ns.Pairwise (fun a b => lt a b = true) → adj lt ns = true
  | [], _ => rfl
  | [_], _ => rfl
  | x :: y :: r, h => by
    have h1 := List.rel_of_pairwise_cons h (List.mem_cons_self (a := y) (l := r))
    have h2 := adj_of (lt := lt) (List.Pairwise.of_cons h)
    show (lt x y && adj lt (y :: r)) = true
    rw [h1, h2]
    rfl
theorem setI_of {ns : List Int} {k : Nat} (h1 : ns.Pairwise (· < ·)) (h2 : ∀ x ∈ ns, 0 ≤ x ∧ x < (k : Int)) : setI ns k = true := by
  unfold setI
  rw [adjI_of (h1.imp fun h => decide_eq_true h), Bool.and_true, List.all_eq_true]
  intro x hx
  have := h2 x hx
  simp
  omega
/-- sorted whole numbers -/
theorem leD_ii {a b : Int} : leD (.int a) (.int b) = decide (a ≤ b) := by
  unfold leD
  rw [PySem.W.dataLt_int]
  by_cases h : a ≤ b
  · rw [decide_eq_true h, decide_eq_false (by omega)]; rfl
  · rw [decide_eq_false h, decide_eq_true (by omega)]; rfl
theorem le_total : PySem.W.TotalLe (fun a b : Int => leD (.int a) (.int b)) := ⟨fun a b c h1 h2 => by
    rw [leD_ii] at *
    simp at *
    omega, fun a b => by
    rw [leD_ii, leD_ii]
    simp
    omega⟩
theorem sortI_up (ns : List Int) : (sortI ns).Pairwise (· ≤ ·) := (isort_sorted le_total ns).imp fun {a b} h => by
  rw [leD_ii] at h
  simpa using h
theorem sortI_perm (ns : List Int) : (sortI ns).Perm ns := isort_perm ns
theorem up_unique : ∀ {a b : List Int}, a.Perm b → a.Pairwise (· ≤ ·) → b.Pairwise (· ≤ ·) → a = b := fun {a b} p ha hb => List.Perm.eq_of_pairwise (fun x y _ _ h1 h2 => by omega) ha hb p
theorem once_of {lots : List (List Int)} {n : Int} (h : lots.flatten.Perm (rngI n)) : onceB lots n = true := by
  unfold onceB
  rw [decide_eq_true_eq]
  exact up_unique ((sortI_perm _).trans h) (sortI_up _) ((rngI_up n).imp fun h => by omega)
theorem once_len {lots : List (List Int)} {n : Int} (h : onceB lots n = true) : (lots.flatten.length : Int) = n.toNat := by
  unfold onceB at h
  rw [decide_eq_true_eq] at h
  have := (sortI_perm lots.flatten).length_eq
  rw [h] at this
  have e : (rngI n).length = n.toNat := by simp [rngI]
  omega
end La
set_option Elab.async false
set_option linter.all false
set_option maxRecDepth 100000
set_option maxHeartbeats 4000000
namespace La
open PySem L2 PyProof.Rows Pu
theorem rg1 {n : Int} (h0 : 0 ≤ n) (h : n ≤ 1000000) : fRange1 [.int n] = some ((rngI n).map PyData.int) := by
  show (if rgOk 0 n = true then some (rgD 0 n) else none) = _
  have e : rgOk 0 n = true := by
    unfold rgOk
    simp
    omega
  rw [if_pos e]
  unfold rgD rngI
  simp
/-- the k-th of the range -/
theorem rng_at {n : Int} {dn rest : List D} {d : D} (h : (rngI n).map PyData.int = dn ++ d :: rest) : d = .int (dn.length : Nat) ∧ (dn.length : Int) < n := by
  have e : ((rngI n).map PyData.int)[dn.length]? = some d := by rw [h]; simp
  unfold rngI at e
  rw [List.map_map, List.getElem?_map] at e
  obtain ⟨i, hi, e⟩ := Option.map_eq_some_iff.mp e
  obtain ⟨h1, h2⟩ := List.getElem?_eq_some_iff.mp hi
  rw [List.getElem_range] at h2
  rw [List.length_range] at h1
  subst h2
  exact ⟨e.symm, by omega⟩
def ISin (ri ro many : Int) (outs : List D) (dn : List D) (ρ : Ev) : Prop := ∃ cup ls x7 x8, Cup cup ∧ Rims many dn.length ls ∧ ni x7 = true ∧ ni x8 = true ∧ ρ = [some (.io cup), some (.frz (.int ri)), some (.frz (.int ro)), some (.frz (.int many)), some (.own (ls.map tI)), some (.own outs), none, x7, x8, none, none, none]
def ISout (ri ro many : Int) (ins : List D) (dn : List D) (ρ : Ev) : Prop := ∃ cup ls x7 x8, Cup cup ∧ Rims many dn.length ls ∧ ni x7 = true ∧ ni x8 = true ∧ ρ = [some (.io cup), some (.frz (.int ri)), some (.frz (.int ro)), some (.frz (.int many)), some (.own ins), some (.own (ls.map tI)), none, x7, x8, none, none, none]
theorem ixN_of {n : Nat} {i : Int} (h0 : 0 ≤ i) (h : i < n) : ixN n i = some i.toNat := by
  unfold ixN
  rw [if_pos h0, if_pos h]
theorem add_one {l : List Int} {k : Int} (h : l.length + 1 ≤ lim) : fAdd (tI l) (.tuple [.int k]) = some (.fz (tI (l ++ [k]))) := by
  show (if (l.map PyData.int).length + 1 ≤ lim then some (RV.fz (.tuple (l.map PyData.int ++ [.int k]))) else none) = _
  rw [List.length_map, if_pos h]
  unfold tI
  rw [List.map_append]
  rfl
theorem Rims.short {many : Int} {k : Nat} {ls : List (List Int)} (r : Rims many k ls) {i : Nat} {l : List Int} (h : ls[i]? = some l) : l.length ≤ k := by
  have h1 := r.all.length_eq
  have e : (rngI k).length = k := by simp [rngI]
  have h2 : l.length ≤ ls.flatten.length := (List.sublist_flatten_of_mem (List.mem_of_getElem? h)).length_le
  omega
theorem step_in {ri ro many : Int} {outs dn : List D} {d : D} {rest : List D} {ρ : Ev} (hm : 0 < many) (hm2 : many ≤ 6) (hr : ri ≤ 8) (e : (rngI ri).map PyData.int = dn ++ d :: rest) (h : ISin ri ro many outs dn ρ) :
    opP (asg (.n 7) d ρ) fun ρ1 => Wd (mBlk [mSet 8 (mCall 2 p__law_roll [mSlot 0, mEsc (mSlot 3)]), mStore 4 (mSlot 8) (mBin fAdd (mBin fItem (mSlot 4) (mSlot 8)) (mTup [mEsc (mSlot 7)]))] ρ1) fun f ρ2 => f = .next ∧ ISin ri ro many outs (dn ++ [d]) ρ2 := by
  obtain ⟨cup, ls, x7, x8, hc, hR, h7, h8, rfl⟩ := h
  obtain ⟨rfl, hk⟩ := rng_at e
  simp [h7, h8]
  refine wd_roll hc hm (by omega) fun r ys hy r0 r1 => ?_
  have hlen : r < (ls.length : Int) := by rw [hR.len]; exact r1
  obtain ⟨l, hl⟩ : ∃ l, ls[r.toNat]? = some l := ⟨_, List.getElem?_eq_getElem (by omega)⟩
  have hl2 : l.length + 1 ≤ lim := by
    have := hR.short hl
    show l.length + 1 ≤ 16777216
    omega
  simp [h7, h8, atI_toNat r0, hl, fTup, lim, add_one hl2, ixN_of r0 hlen]
  refine ⟨ys, ls.set r.toNat (l ++ [(dn.length : Int)]), some (.frz (.int (dn.length : Nat))), some (.frz (.int r)), hy, ?_, rfl, rfl, ?_⟩
  · rw [List.length_append]
    exact hR.step hl
  · rw [List.map_set]
theorem step_out {ri ro many : Int} {ins dn : List D} {d : D} {rest : List D} {ρ : Ev} (hm : 0 < many) (hm2 : many ≤ 6) (hr : ro ≤ 8) (e : (rngI ro).map PyData.int = dn ++ d :: rest) (h : ISout ri ro many ins dn ρ) :
    opP (asg (.n 7) d ρ) fun ρ1 => Wd (mBlk [mSet 8 (mCall 2 p__law_roll [mSlot 0, mEsc (mSlot 3)]), mStore 5 (mSlot 8) (mBin fAdd (mBin fItem (mSlot 5) (mSlot 8)) (mTup [mEsc (mSlot 7)]))] ρ1) fun f ρ2 => f = .next ∧ ISout ri ro many ins (dn ++ [d]) ρ2 := by
  obtain ⟨cup, ls, x7, x8, hc, hR, h7, h8, rfl⟩ := h
  obtain ⟨rfl, hk⟩ := rng_at e
  simp [h7, h8]
  refine wd_roll hc hm (by omega) fun r ys hy r0 r1 => ?_
  have hlen : r < (ls.length : Int) := by rw [hR.len]; exact r1
  obtain ⟨l, hl⟩ : ∃ l, ls[r.toNat]? = some l := ⟨_, List.getElem?_eq_getElem (by omega)⟩
  have hl2 : l.length + 1 ≤ lim := by
    have := hR.short hl
    show l.length + 1 ≤ 16777216
    omega
  simp [h7, h8, atI_toNat r0, hl, fTup, lim, add_one hl2, ixN_of r0 hlen]
  refine ⟨ys, ls.set r.toNat (l ++ [(dn.length : Int)]), some (.frz (.int (dn.length : Nat))), some (.frz (.int r)), hy, ?_, rfl, rfl, ?_⟩
  · rw [List.length_append]
    exact hR.step hl
  · rw [List.map_set]
end La
set_option Elab.async false
set_option linter.all false
set_option maxRecDepth 100000
set_option maxHeartbeats 4000000
namespace La
open PySem L2 PyProof.Rows Pu
/-! ### the math of a built surface -/
abbrev Tr := List Int × List Int × Int
def ptOf (t : Tr) : Option Pt := if (!t.1.isEmpty || !t.2.1.isEmpty) = true then some ⟨t.1, t.2.1, .int t.2.2⟩ else none
def shOf (t : Tr) : Option Int := if (t.1.isEmpty && t.2.1.isEmpty) = true then some t.2.2 else none
theorem range_fm {α β : Type} (f : α → Option β) : ∀ L : List α, (List.range L.length).filterMap (fun i => (L[i]?).bind f) = L.filterMap f
  | [] => rfl
  | a :: L => by
    have ih := range_fm f L
    rw [List.length_cons, List.range_succ_eq_map, List.filterMap_cons, List.filterMap_map]
    have e : ((fun i => ((a :: L)[i]?).bind f) ∘ Nat.succ) = fun i => (L[i]?).bind f := by
      funext i
      simp
    rw [e, ih]
    simp
    rfl
theorem rng_fm {α β : Type} (f : α → Option β) (L : List α) {n : Int} (h : (L.length : Int) = n) : (rngI n).filterMap (fun i => (L[i.toNat]?).bind f) = L.filterMap f := by
  unfold rngI
  rw [List.filterMap_map, ← range_fm f L, ← h, Int.toNat_natCast]
  rfl
theorem ins_flat : ∀ L : List Tr, ((L.filterMap ptOf).map Pt.ins).flatten = (L.map (·.1)).flatten
  | [] => rfl
  | t :: L => by
    have ih := ins_flat L
    rw [List.filterMap_cons]
    unfold ptOf
    split
    · rename_i h
      have e : t.1 = [] := by
        split at h
        · cases h
        · rename_i h2
          simp at h2
          exact h2.1
      rw [List.map_cons, List.flatten_cons, e, List.nil_append]
      exact ih
    · rename_i p h
      split at h
      · cases h
        rw [List.map_cons, List.map_cons, List.flatten_cons, List.flatten_cons]
        exact congrArg (t.1 ++ ·) ih
      · cases h
theorem outs_flat : ∀ L : List Tr, ((L.filterMap ptOf).map Pt.outs).flatten = (L.map (·.2.1)).flatten
  | [] => rfl
  | t :: L => by
    have ih := outs_flat L
    rw [List.filterMap_cons]
    unfold ptOf
    split
    · rename_i h
      have e : t.2.1 = [] := by
        split at h
        · cases h
        · rename_i h2
          simp at h2
          exact h2.2
      rw [List.map_cons, List.flatten_cons, e, List.nil_append]
      exact ih
    · rename_i p h
      split at h
      · cases h
        rw [List.map_cons, List.map_cons, List.flatten_cons, List.flatten_cons]
        exact congrArg (t.2.1 ++ ·) ih
      · cases h
structure Built (ri ro : Int) (ps : List Pt) (sh : List Int) : Prop where
  hi : 0 ≤ ri ∧ ri ≤ 8
  ho : 0 ≤ ro ∧ ro ≤ 8
  lp : ps.length ≤ 6
  ls : sh.length ≤ 6
  small : Small ps
  pt : ∀ p ∈ ps, partB ri ro p = true
  sw : ∀ x ∈ sh, 0 ≤ x ∧ x ≤ 60
  ss : sh.Pairwise (· ≤ ·)
  oi : (ps.map Pt.ins).flatten.Perm (rngI ri)
  oo : (ps.map Pt.outs).flatten.Perm (rngI ro)
  asc : (ps.map Pt.enc).Pairwise (fun a b => PySem.W.dataLt a b = true)
def sortP (ps : List Pt) : List Pt := isort (fun a b : Pt => leD a.enc b.enc) ps
theorem leP_total : PySem.W.TotalLe (fun a b : Pt => leD a.enc b.enc) := ⟨fun a b c h1 h2 => leD_total.trans _ _ _ h1 h2, fun a b => leD_total.total _ _⟩
theorem enc_itree {p : Pt} {i : Int} (h : p.h = .int i) : itree p.enc = true := by
  unfold Pt.enc tI
  rw [h]
  simp [itree, itrees, itrees_ints]
theorem enc_alike {p q : Pt} {i j : Int} (h : p.h = .int i) (h2 : q.h = .int j) : PySem.W.alike p.enc q.enc = true := by
  unfold Pt.enc tI
  rw [h, h2]
  simp [PySem.W.alike, PySem.W.alikeAll, alike_ints]
theorem part_facts {ri ro : Int} {p : Pt} (h : partB ri ro p = true) : (∃ i, p.h = .int i) ∧ (p.ins ≠ [] ∨ p.outs ≠ []) := by
  unfold partB wholeD at h
  cases e : p.h with
  | int i =>
    refine ⟨⟨i, rfl⟩, ?_⟩
    simp at h
    exact h.2.2.2
  | _ => rw [e] at h; simp at h
theorem enc_inj {p q : Pt} (h : p.enc = q.enc) : p.ins = q.ins ∧ p.outs = q.outs := by
  unfold Pt.enc at h
  simp only [PyData.tuple.injEq, List.cons.injEq] at h
  exact ⟨tI_inj _ _ h.1, tI_inj _ _ h.2.1⟩
theorem asc_of {ri ro : Int} {ps : List Pt} (hp : ∀ p ∈ ps, partB ri ro p = true) (oi : (ps.map Pt.ins).flatten.Perm (rngI ri)) (oo : (ps.map Pt.outs).flatten.Perm (rngI ro)) (hs : ps.Pairwise (fun a b => leD a.enc b.enc = true)) : (ps.map Pt.enc).Pairwise (fun a b => PySem.W.dataLt a b = true) := by
  rw [List.pairwise_map]
  have nodup : ∀ n : Int, (rngI n).Nodup := fun n => (rngI_up n).imp fun h => by omega
  have d1 := (List.pairwise_flatten.mp ((oi.nodup_iff).mpr (nodup ri))).2
  have d2 := (List.pairwise_flatten.mp ((oo.nodup_iff).mpr (nodup ro))).2
  rw [List.pairwise_map] at d1 d2
  have dd := (hs.and (d1.and d2)).imp_of_mem (S := fun a b => PySem.W.dataLt a.enc b.enc = true) fun {a b} ha hb ⟨h1, h2, h3⟩ => by
    obtain ⟨⟨i, ei⟩, ne⟩ := part_facts (hp a ha)
    obtain ⟨⟨j, ej⟩, _⟩ := part_facts (hp b hb)
    refine itree_lt (enc_itree ei) (enc_itree ej) (enc_alike ei ej) ?_ fun z => ?_
    · unfold leD at h1
      simpa using h1
    · obtain ⟨z1, z2⟩ := enc_inj z
      rcases ne with ne | ne
      · obtain ⟨x, hx⟩ := List.exists_mem_of_ne_nil _ ne
        exact h2 x hx x (z1 ▸ hx) rfl
      · obtain ⟨x, hx⟩ := List.exists_mem_of_ne_nil _ ne
        exact h3 x hx x (z2 ▸ hx) rfl
  exact dd
end La
set_option Elab.async false
set_option linter.all false
set_option maxRecDepth 100000
set_option maxHeartbeats 4000000
namespace La
open PySem L2 PyProof.Rows Pu
theorem zip3 {a b c n} {ls1 : List a} {ls2 : List b} {hs : List c} (h1 : ls1.length = n) (h2 : ls2.length = n) (h3 : hs.length = n) : (ls1.zip (ls2.zip hs)).length = n ∧ (ls1.zip (ls2.zip hs)).map (·.1) = ls1 ∧ (ls1.zip (ls2.zip hs)).map (·.2.1) = ls2 := by
  have e : (ls2.zip hs).length = n := by rw [List.length_zip]; omega
  refine ⟨by rw [List.length_zip, e]; omega, List.map_fst_zip (by omega), ?_⟩
  have z : (ls1.zip (ls2.zip hs)).map (·.2.1) = ((ls1.zip (ls2.zip hs)).map Prod.snd).map Prod.fst := by rw [List.map_map]; rfl
  rw [z, List.map_snd_zip (by omega), List.map_fst_zip (by omega)]
theorem zip3_at {a b c : Type} {ls1 : List a} {ls2 : List b} {hs : List c} {i : Nat} {x : a} {y : b} {z : c} (h1 : ls1[i]? = some x) (h2 : ls2[i]? = some y) (h3 : hs[i]? = some z) : (ls1.zip (ls2.zip hs))[i]? = some (x, y, z) := by
  rw [List.getElem?_zip_eq_some]
  exact ⟨h1, by rw [List.getElem?_zip_eq_some]; exact ⟨h2, h3⟩⟩
theorem setI_up {ns : List Int} {n : Int} (h0 : 0 ≤ n) (h1 : ns.Pairwise (· < ·)) (h2 : ∀ x ∈ ns, 0 ≤ x ∧ x < (n.toNat : Int)) : setI ns n = true := by
  have := setI_of h1 h2
  rwa [Int.toNat_of_nonneg h0] at this
theorem built_of {ri ro many : Int} {ls1 ls2 : List (List Int)} {hs : List Int} (hi : 0 ≤ ri ∧ ri ≤ 8) (ho : 0 ≤ ro ∧ ro ≤ 8) (hm : many ≤ 6) (r1 : Rims many ri.toNat ls1) (r2 : Rims many ro.toNat ls2) (hl : (hs.length : Int) = many) (hh : ∀ h ∈ hs, 0 ≤ h ∧ h ≤ 60) :
    Built ri ro (sortP ((ls1.zip (ls2.zip hs)).filterMap ptOf)) (sortI ((ls1.zip (ls2.zip hs)).filterMap shOf)) := by
  have a1 := r1.len
  have a2 := r2.len
  obtain ⟨z1, z2, z3⟩ := zip3 (n := hs.length) (ls1 := ls1) (ls2 := ls2) (hs := hs) (by omega) (by omega) rfl
  generalize hL : ls1.zip (ls2.zip hs) = L at z1 z2 z3
  have memL : ∀ t ∈ L, t.1 ∈ ls1 ∧ t.2.1 ∈ ls2 ∧ t.2.2 ∈ hs := fun t ht => by
    rw [← hL] at ht
    have m := List.of_mem_zip (a := t.1) (b := t.2) ht
    have m2 := List.of_mem_zip (a := t.2.1) (b := t.2.2) m.2
    exact ⟨m.1, m2.1, m2.2⟩
  have pp : (sortP (L.filterMap ptOf)).Perm (L.filterMap ptOf) := isort_perm _
  have p1 : ∀ p ∈ L.filterMap ptOf, partB ri ro p = true ∧ p.ins.length ≤ 100 ∧ p.outs.length ≤ 100 := fun p hp => by
    obtain ⟨t, ht, e⟩ := List.mem_filterMap.mp hp
    obtain ⟨m1, m2, m3⟩ := memL t ht
    unfold ptOf at e
    split at e
    · rename_i hn
      cases e
      obtain ⟨u1, v1⟩ := r1.up _ m1
      obtain ⟨u2, v2⟩ := r2.up _ m2
      have w := hh _ m3
      refine ⟨?_, ?_, ?_⟩
      · unfold partB
        rw [setI_up hi.1 u1 v1, setI_up ho.1 u2 v2]
        show (decide (0 ≤ t.2.2) && decide (t.2.2 ≤ 60) && _) = true
        rw [decide_eq_true w.1, decide_eq_true w.2]
        simpa using hn
      · obtain ⟨i, hi2⟩ := List.getElem?_of_mem m1
        have := r1.short hi2
        show t.1.length ≤ 100
        omega
      · obtain ⟨i, hi2⟩ := List.getElem?_of_mem m2
        have := r2.short hi2
        show t.2.1.length ≤ 100
        omega
    · cases e
  have len6 : ∀ {β : Type} (f : Tr → Option β), (L.filterMap f).length ≤ 6 := fun f => by
    have := List.length_filterMap_le f L
    omega
  have p1' : ∀ p ∈ sortP (L.filterMap ptOf), partB ri ro p = true ∧ p.ins.length ≤ 100 ∧ p.outs.length ≤ 100 := fun p hp => p1 p (pp.mem_iff.mp hp)
  have lp : (sortP (L.filterMap ptOf)).length ≤ 6 := by rw [pp.length_eq]; exact len6 _
  have oi : ((sortP (L.filterMap ptOf)).map Pt.ins).flatten.Perm (rngI ri) := by
    refine ((pp.map Pt.ins).flatten).trans ?_
    rw [ins_flat, z2]
    have := r1.all
    rwa [Int.toNat_of_nonneg hi.1] at this
  have oo : ((sortP (L.filterMap ptOf)).map Pt.outs).flatten.Perm (rngI ro) := by
    refine ((pp.map Pt.outs).flatten).trans ?_
    rw [outs_flat, z3]
    have := r2.all
    rwa [Int.toNat_of_nonneg ho.1] at this
  refine ⟨hi, ho, lp, by rw [(sortI_perm _).length_eq]; exact len6 _, ⟨by omega, fun p hp => (p1' p hp).2⟩, fun p hp => (p1' p hp).1, fun x hx => ?_, sortI_up _, oi, oo, asc_of (fun p hp => (p1' p hp).1) oi oo (isort_sorted leP_total _)⟩
  obtain ⟨t, ht, e⟩ := List.mem_filterMap.mp ((sortI_perm _).mem_iff.mp hx)
  unfold shOf at e
  split at e
  · cases e; exact hh _ (memL t ht).2.2
  · cases e
/-! ### the program's lists -/
theorem sorted_parts {ps : List Pt} (hl : ps.length ≤ 6) (hi : ∀ p ∈ ps, ∃ i, p.h = .int i) : fSorted [.list (ps.map Pt.enc)] = some (.fr ((sortP ps).map Pt.enc)) := by
  show (if sortsOk (ps.map Pt.enc) = true then some (RV.fr (isort leD (ps.map Pt.enc))) else none) = _
  rw [if_pos, sortP, isort_map]
  unfold sortsOk
  simp only [Bool.and_eq_true, Bool.or_eq_true, List.all_eq_true, decide_eq_true_eq, List.length_map]
  refine ⟨⟨⟨fun x hx y hy => ?_, fun x hx => ?_⟩, by show ps.length ≤ 16777216; omega⟩, .inl fun x hx => ?_⟩
  · obtain ⟨p, hp, rfl⟩ := List.mem_map.mp hx
    obtain ⟨q, hq, rfl⟩ := List.mem_map.mp hy
    obtain ⟨i, ei⟩ := hi p hp
    obtain ⟨j, ej⟩ := hi q hq
    exact enc_alike ei ej
  · obtain ⟨p, hp, rfl⟩ := List.mem_map.mp hx
    obtain ⟨i, ei⟩ := hi p hp
    unfold Pt.enc tI
    rw [ei]
    simp [PyData.depth, PyData.depthAll, depth_ints]
  · obtain ⟨p, hp, rfl⟩ := List.mem_map.mp hx
    rfl
end La
set_option Elab.async false
set_option linter.all false
set_option maxRecDepth 100000
set_option maxHeartbeats 8000000
namespace La
open PySem L2 PyProof.Rows Pu
theorem tup0 : fTup [] = some (.fz (.tuple [])) := rfl
theorem tup1 {a : D} : fTup [a] = some (.fz (.tuple [a])) := rfl
theorem tup3 {a b c : D} : fTup [a, b, c] = some (.fz (.tuple [a, b, c])) := rfl
theorem tup4 {a b c d : D} : fTup [a, b, c, d] = some (.fz (.tuple [a, b, c, d])) := rfl
def Iho (ri ro many : Int) (a b : List D) (y7 y8 : Option Sl) (dn acc : List D) (ρ : Ev) : Prop := ∃ (cup : List D) (hs : List Int), Cup cup ∧ acc = hs.map PyData.int ∧ hs.length = dn.length ∧ (∀ h ∈ hs, 0 ≤ h ∧ h ≤ 60) ∧
  ρ = [some (.io cup), some (.frz (.int ri)), some (.frz (.int ro)), some (.frz (.int many)), some (.own a), some (.own b), none, y7, y8, none, none, none]
theorem step_ho {ri ro many : Int} {a b : List D} {y7 y8 : Option Sl} {dn acc : List D} {d : D} {ρ : Ev} (h : Iho ri ro many a b y7 y8 dn acc ρ) : Wd (elem (.n 6) (mC (.bool true)) (mCall 2 p__law_roll [mSlot 0, mEsc (mC (.int 61))]) d ρ) fun o ρ3 => Iho ri ro many a b y7 y8 (dn ++ [d]) (acc ++ o.toList) (wipeE [6] ρ3) := by
  obtain ⟨cup, hs, hc, rfl, hl, hh, rfl⟩ := h
  simp
  refine wd_roll hc (by omega) (by omega) fun r ys hy r0 r1 => ?_
  simp [wipeE, over]
  refine ⟨ys, hs ++ [r], hy, by simp, by simp [hl], fun h hm => ?_, rfl⟩
  rcases List.mem_append.mp hm with hm | hm
  · exact hh h hm
  · rcases List.mem_singleton.mp hm with rfl
    omega
def gP (L : List Tr) (d : D) : Option D := match d with
  | .int i => ((L[i.toNat]?).bind ptOf).map Pt.enc
  | _ => none
def gS (L : List Tr) (d : D) : Option D := match d with
  | .int i => ((L[i.toNat]?).bind shOf).map PyData.int
  | _ => none
theorem fm_P {L : List Tr} {n : Int} (h : (L.length : Int) = n) : ((rngI n).map PyData.int).filterMap (gP L) = (L.filterMap ptOf).map Pt.enc := by
  rw [← rng_fm ptOf L h, List.filterMap_map, List.map_filterMap]
  rfl
theorem fm_S {L : List Tr} {n : Int} (h : (L.length : Int) = n) : ((rngI n).map PyData.int).filterMap (gS L) = (L.filterMap shOf).map PyData.int := by
  rw [← rng_fm shOf L h, List.filterMap_map, List.map_filterMap]
  rfl
theorem surface_run {xs : List D} (hc : Cup xs) : Wd (m__law_surface [some (.io xs), none, none, none, none, none, none, none, none, none, none, none]) fun f ρ => ∃ ri ro ps sh ys rest, f = .ret (.fz (surf ri ro ps (sh.map PyData.int))) ∧ ρ = some (.io ys) :: rest ∧ Cup ys ∧ Built ri ro ps sh := by
  unfold m__law_surface
  simp
  refine wd_roll hc (by omega) (by omega) fun ri c1 hc1 ri0 ri1 => ?_
  simp
  refine wd_roll hc1 (by omega) (by omega) fun ro c2 hc2 ro0 ro1 => ?_
  simp
  refine wd_roll hc2 (by omega) (by omega) fun mm c3 hc3 m0 m1 => ?_
  simp
  obtain ⟨many, hmany⟩ : ∃ many, 1 + mm = many := ⟨_, rfl⟩
  rw [hmany]
  have em := rg1 (n := many) (by omega) (by omega)
  have lm : ((rngI many).map PyData.int).length ≤ lim := by
    rw [List.length_map]
    unfold rngI
    simp
    show many ≤ 16777216
    omega
  refine wd_compM (fun _ => .tuple []) ?_
  simp only [List.length_map] at lm
  simp [em, lm]
  refine ⟨fun x hx => by simp [wipeE, over, tup0], ?_⟩
  refine wd_compM (fun _ => .tuple []) ?_
  simp [em, lm]
  refine ⟨fun x hx => by simp [wipeE, over, tup0], ?_⟩
  have e0 : List.map ((fun x => PyData.tuple []) ∘ PyData.int) (rngI many) = (List.replicate many.toNat ([] : List Int)).map tI := by
    unfold rngI
    rw [List.map_map]
    rw [List.map_replicate, show ((fun x => PyData.tuple []) ∘ PyData.int) ∘ (fun i : Nat => ((i : Nat) : Int)) = fun _ => tI [] from rfl, List.map_const', List.length_range]
  rw [e0]
  have r0 : Rims many 0 (List.replicate many.toNat ([] : List Int)) := Rims.init (by rw [List.length_replicate]; omega) fun l hl => List.eq_of_mem_replicate hl
  have ei := rg1 (n := ri) (by omega) (by omega)
  have eo := rg1 (n := ro) (by omega) (by omega)
  have lenr : ∀ n : Int, ((rngI n).map PyData.int).length = n.toNat := fun n => by simp [rngI]
  refine wd_forN ((rngI ri).map PyData.int) (ISin ri ro many ((List.replicate many.toNat ([] : List Int)).map tI)) (by simp [ei]) ⟨c3, _, none, none, hc3, r0, rfl, rfl, rfl⟩ (fun dn d rest ρ e h => step_in (by omega) (by omega) (by omega) e h) fun ρ h => ?_
  obtain ⟨c4, ls1, x7, x8, hc4, R1, h7, h8, rfl⟩ := h
  rw [lenr] at R1
  dsimp only
  refine wd_forN ((rngI ro).map PyData.int) (ISout ri ro many (ls1.map tI)) (by simp [eo]) ⟨c4, _, x7, x8, hc4, r0, h7, h8, rfl⟩ (fun dn d rest ρ e h => step_out (by omega) (by omega) (by omega) e h) fun ρ h => ?_
  obtain ⟨c5, ls2, y7, y8, hc5, R2, g7, g8, rfl⟩ := h
  rw [lenr] at R2
  dsimp only
  refine wd_compR (ρ1 := [some (.io c5), some (.frz (.int ri)), some (.frz (.int ro)), some (.frz (.int many)), some (.own (ls1.map tI)), some (.own (ls2.map tI)), none, y7, y8, none, none, none]) ((rngI many).map PyData.int) (Iho ri ro many (ls1.map tI) (ls2.map tI) y7 y8) (by simp [em]) (by rw [List.length_map]; exact lm) ⟨c5, [], hc5, rfl, rfl, by simp, rfl⟩ (fun dn d rest acc ρ _ h => step_ho h) fun es ρ h => ?_
  obtain ⟨c6, hs, hc6, rfl, hhl, hh, rfl⟩ := h
  rw [lenr] at hhl
  simp [backE, over]
  have hhl2 : (hs.length : Int) = many := by omega
  have a1 := R1.len
  have a2 := R2.len
  obtain ⟨z1, z2, z3⟩ := zip3 (n := hs.length) (ls1 := ls1) (ls2 := ls2) (hs := hs) (by omega) (by omega) rfl
  have zl : ((ls1.zip (ls2.zip hs)).length : Int) = many := by omega
  have at3 : ∀ x ∈ (rngI many).map PyData.int, ∃ i a b h, x = .int i ∧ 0 ≤ i ∧ ls1[i.toNat]? = some a ∧ ls2[i.toNat]? = some b ∧ hs[i.toNat]? = some h ∧ (ls1.zip (ls2.zip hs))[i.toNat]? = some (a, b, h) := fun x hx => by
    obtain ⟨i, hi, rfl⟩ := List.mem_map.mp hx
    obtain ⟨i0, i1⟩ := mem_rngI.mp hi
    have q1 : ls1[i.toNat]? = some ls1[i.toNat] := List.getElem?_eq_getElem (by omega)
    have q2 : ls2[i.toNat]? = some ls2[i.toNat] := List.getElem?_eq_getElem (by omega)
    have q3 : hs[i.toNat]? = some hs[i.toNat] := List.getElem?_eq_getElem (by omega)
    exact ⟨i, _, _, _, rfl, i0, q1, q2, q3, zip3_at q1 q2 q3⟩
  refine wd_compPR (ρ1 := [some (.io c6), some (.frz (.int ri)), some (.frz (.int ro)), some (.frz (.int many)), some (.own (ls1.map tI)), some (.own (ls2.map tI)), none, y7, y8, some (.own (hs.map PyData.int)), none, none]) ((rngI many).map PyData.int) (gP (ls1.zip (ls2.zip hs))) (by simp [em]) (by rw [List.length_map]; exact lm) (fun x hx => ?_) ?_
  · obtain ⟨i, a, b, h, rfl, i0, q1, q2, q3, q4⟩ := at3 x hx
    simp [wipeE, over, atI_toNat i0, q1, q2, q3, tup0, tup3, ne_unit, gP, q4, ptOf, Pt.enc]
    by_cases e1 : a = [] <;> by_cases e2 : b = [] <;> simp [e1, e2]
  rw [fm_P zl]
  simp
  refine wd_compPR (ρ1 := [some (.io c6), some (.frz (.int ri)), some (.frz (.int ro)), some (.frz (.int many)), some (.own (ls1.map tI)), some (.own (ls2.map tI)), none, y7, y8, some (.own (hs.map PyData.int)), some (.own (((ls1.zip (ls2.zip hs)).filterMap ptOf).map Pt.enc)), none]) ((rngI many).map PyData.int) (gS (ls1.zip (ls2.zip hs))) (by simp [em]) (by rw [List.length_map]; exact lm) (fun x hx => ?_) ?_
  · obtain ⟨i, a, b, h, rfl, i0, q1, q2, q3, q4⟩ := at3 x hx
    simp [wipeE, over, atI_toNat i0, q1, q2, q3, tup0, eq_unit, gS, q4, shOf]
    by_cases e1 : a = [] <;> by_cases e2 : b = [] <;> simp [e1, e2]
  rw [fm_S zl]
  have B := built_of (ls1 := ls1) (ls2 := ls2) (hs := hs) ⟨ri0, by omega⟩ ⟨ro0, by omega⟩ (by omega : many ≤ 6) R1 R2 hhl2 hh
  have len6 : ∀ {β : Type} (f : Tr → Option β), ((ls1.zip (ls2.zip hs)).filterMap f).length ≤ 6 := fun f => by
    have := List.length_filterMap_le f (ls1.zip (ls2.zip hs))
    omega
  have sp := sorted_parts (len6 ptOf) fun p hp => by
    obtain ⟨t, ht, e⟩ := List.mem_filterMap.mp hp
    unfold ptOf at e
    split at e
    · cases e; exact ⟨_, rfl⟩
    · cases e
  have ss := sorted_ints (ns := (ls1.zip (ls2.zip hs)).filterMap shOf) (Nat.le_trans (len6 shOf) (by decide))
  simp [sp, ss, tup4]
  exact ⟨ri, ro, _, _, rfl, hc6, B⟩
theorem surface_ok {xs : List D} (hc : Cup xs) : ∃ ri ro ps sh ys rest, p__law_surface [.io xs] = .ok (.fz (surf ri ro ps (sh.map PyData.int))) (some (.io ys) :: rest) ∧ Cup ys ∧ Built ri ro ps sh := by
  obtain ⟨f, ρ, e, ri, ro, ps, sh, ys, rest, rfl, rfl, h1, h2⟩ := (surface_run hc).get
  exact ⟨ri, ro, ps, sh, ys, rest, pf_ret e, h1, h2⟩
end La
set_option Elab.async false
set_option linter.all false
set_option maxRecDepth 100000
set_option maxHeartbeats 8000000
namespace La
open PySem L2 PyProof.Rows Pu
def NotS (v : D) : Prop := resV (p_is_surface [.frz v]) = some (.fz (.bool false))
theorem surf_true {ri ro : Int} {ps : List Pt} {sh : List D} (h : surfB ri ro ps sh = true) : (∀ p ∈ ps, partB ri ro p = true) ∧ (∀ v ∈ sh, wholeD v 0 60 = true) ∧ adj leI sh = true ∧ onceB (ps.map Pt.ins) ri = true ∧ onceB (ps.map Pt.outs) ro = true ∧ adj ltD (ps.map Pt.enc) = true := by
  unfold surfB at h
  simp only [Bool.and_eq_true, List.all_eq_true] at h
  exact ⟨h.2.2.2.1, h.2.2.2.2.2.1, h.2.2.2.2.2.2.1, h.2.2.2.2.2.2.2.1, h.2.2.2.2.2.2.2.2.1, h.2.2.2.2.2.2.2.2.2⟩
theorem notS {ri ro : Int} {ps : List Pt} {sh : List D} (hs : Small ps) (hl : sh.length ≤ 100) (h : surfB ri ro ps sh = true → False) : NotS (surf ri ro ps sh) := by
  unfold NotS
  rw [is_surface hs hl]
  cases e : surfB ri ro ps sh with
  | true => exact (h e).elim
  | false => rfl
theorem built_true {ri ro : Int} {ps : List Pt} {sh : List Int} (B : Built ri ro ps sh) : surfB ri ro ps (sh.map PyData.int) = true := by
  unfold surfB
  have a1 := B.hi
  have a2 := B.ho
  have a3 := B.lp
  have a4 := B.ls
  have w : ∀ {r : Int}, 0 ≤ r ∧ r ≤ 8 → wholeD (.int r) 0 8 = true := fun {r} h => by simp [wholeD]; exact h
  rw [w a1, w a2, decide_eq_true (by omega : ps.length ≤ 16), List.all_eq_true.mpr B.pt, decide_eq_true (by rw [List.length_map]; omega : (sh.map PyData.int).length ≤ 20), once_of B.oi, once_of B.oo]
  have e1 : ((sh.map PyData.int).all fun v => wholeD v 0 60) = true := by
    rw [List.all_map, List.all_eq_true]
    intro x hx
    have := B.sw x hx
    simp [wholeD]
    exact this
  have e2 : adj leI (sh.map PyData.int) = true := adj_of (List.pairwise_map.mpr (B.ss.imp fun h => by simp [leI]; exact h))
  have e3 : adj ltD (ps.map Pt.enc) = true := adj_of (B.asc.imp_of_mem fun {a b} ha hb h => by
    obtain ⟨p, _, rfl⟩ := List.mem_map.mp ha
    obtain ⟨q, _, rfl⟩ := List.mem_map.mp hb
    exact h)
  rw [e1, e2, e3]
  rfl
theorem ne_unitL {xs : List D} : fNe (.tuple xs) (.tuple []) = some (.fz (.bool (!xs.isEmpty))) := by
  unfold fNe
  have e : small (.tuple xs) (.tuple []) = true := by
    unfold small
    rw [PyData.depth, PyData.depth, PyData.depthAll]
    simp
  rw [if_pos e, PyData.eqv]
  cases xs <;> simp [PyData.eqvAll]
theorem eq_unitL {xs : List D} : fEq (.tuple xs) (.tuple []) = some (.fz (.bool xs.isEmpty)) := by
  unfold fEq
  have e : small (.tuple xs) (.tuple []) = true := by
    unfold small
    rw [PyData.depth, PyData.depth, PyData.depthAll]
    simp
  rw [if_pos e, PyData.eqv]
  cases xs <;> simp [PyData.eqvAll]
theorem some_ok {xs : List D} (hc : Cup xs) : ∃ v ys rest, p__law_some [.io xs, .frz (.list [.int (-1), .int 61, .none, .bool true, .str "0"])] = .ok (.fz v) (some (.io ys) :: rest) ∧ Cup ys ∧ wholeD v 0 60 = false := by
  have z : Wd (m__law_some [some (.io xs), some (.frz (.list [.int (-1), .int 61, .none, .bool true, .str "0"]))]) fun f ρ => ∃ v ys rest, f = .ret (.fz v) ∧ ρ = some (.io ys) :: rest ∧ Cup ys ∧ wholeD v 0 60 = false := by
    unfold m__law_some
    simp
    refine wd_roll hc (by omega) (by omega) fun r ys hy r0 r1 => ?_
    simp
    have : r = 0 ∨ r = 1 ∨ r = 2 ∨ r = 3 ∨ r = 4 := by omega
    rcases this with rfl | rfl | rfl | rfl | rfl
    · simp [hy]; rfl
    · simp [hy]; rfl
    · simp [hy]; rfl
    · simp [hy]; rfl
    · simp [hy, show atI [PyData.int (-1), .int 61, .none, .bool true, .str "0"] 4 = some (.str "0") from atI_of (i := 4)]; rfl
  obtain ⟨f, ρ, e, v, ys, rest, rfl, rfl, h1, h2⟩ := z.get
  exact ⟨v, ys, rest, pf_ret e, h1, h2⟩
theorem wd_some {ρ : Ev} {i : Nat} {hs : List Hd} {xs : List D} {Q : Hd → Ev → Prop} (hc : Cup xs) (h : ∀ v ys, Cup ys → wholeD v 0 60 = false → Q (.v (.fz v)) (setAt i ys ρ)) :
    Wd (callBack (.s i :: hs) [.io xs, .frz (.list [.int (-1), .int 61, .none, .bool true, .str "0"])] ρ (p__law_some [.io xs, .frz (.list [.int (-1), .int 61, .none, .bool true, .str "0"])])) Q := by
  obtain ⟨v, ys, rest, e, h2, h3⟩ := some_ok hc
  rw [e]
  exact h v ys h2 h3
theorem add_tt {xs ys : List D} (h : xs.length + ys.length ≤ 1000) : fAdd (.tuple xs) (.tuple ys) = some (.fz (.tuple (xs ++ ys))) := by
  show (if xs.length + ys.length ≤ lim then some (RV.fz (.tuple (xs ++ ys))) else none) = _
  rw [if_pos (Nat.le_trans h (by decide))]
theorem list_parts (ri ro : Int) (xs ys : List D) : NotS (.tuple [.int ri, .int ro, .list xs, .tuple ys]) := by
  refine pf_ans ?_
  unfold m_is_surface
  have t4 : tupD (.tuple [.int ri, .int ro, .list xs, .tuple ys]) 4 4 = true := rfl
  have e16 : fMul (.int 2) (.int 8) = some (.fz (.int 16)) := by rfl
  have tl : tupD (.list xs) 0 16 = false := rfl
  simp [is_tuple_of, is_whole, t4, e16, tl]
theorem perm_len {xs : List Int} {n : Int} (h : xs.Perm (rngI n)) : xs.length = n.toNat := by
  rw [h.length_eq]
  simp [rngI]
section
variable {ri ro : Int} {ps : List Pt} {sh : List Int} (B : Built ri ro ps sh)
include B
theorem sh100 : (sh.map PyData.int).length ≤ 100 := by
  have := B.ls
  rw [List.length_map]
  omega
theorem b0 : NotS (.tuple [.int (ri + 1), .int ro, .tuple (ps.map Pt.enc), .tuple (sh.map PyData.int)]) := notS B.small (sh100 B) fun h => by
  have z := once_len (surf_true h).2.2.2.1
  rw [perm_len B.oi] at z
  have := B.hi
  omega
theorem b1 : NotS (.tuple [.int ri, .int (ro + 1), .tuple (ps.map Pt.enc), .tuple (sh.map PyData.int)]) := notS B.small (sh100 B) fun h => by
  have z := once_len (surf_true h).2.2.2.2.1
  rw [perm_len B.oo] at z
  have := B.ho
  omega
theorem b2 : NotS (.tuple [.int ri, .int ro, .tuple (ps.map Pt.enc ++ [.tuple [.tuple [], .tuple [], .int 0]]), .tuple (sh.map PyData.int)]) := by
  have lp := B.lp
  have e : ps.map Pt.enc ++ [.tuple [.tuple [], .tuple [], .int 0]] = (ps ++ [Pt.mk [] [] (.int 0)]).map Pt.enc := by rw [List.map_append]; rfl
  rw [e]
  refine notS ⟨by rw [List.length_append]; simp; omega, fun p hp => ?_⟩ (sh100 B) fun h => ?_
  · rcases List.mem_append.mp hp with hp | hp
    · exact B.small.2 p hp
    · rcases List.mem_singleton.mp hp with rfl
      simp
  · have z := (surf_true h).1 (Pt.mk [] [] (.int 0)) (by simp)
    have := (part_facts z).2
    simp at this
theorem b3 {v : D} (hv : wholeD v 0 60 = false) : NotS (.tuple [.int ri, .int ro, .tuple (ps.map Pt.enc), .tuple (sh.map PyData.int ++ [v])]) := notS B.small (by have := B.ls; simp; omega) fun h => by
  have z := (surf_true h).2.1 v (by simp)
  rw [hv] at z; cases z
theorem b4 {v : D} (hv : wholeD v 0 60 = false) : NotS (.tuple [.int ri, .int ro, .tuple (ps.map Pt.enc), .tuple (v :: sh.map PyData.int)]) := notS B.small (by have := B.ls; simp; omega) fun h => by
  have z := (surf_true h).2.1 v (by simp)
  rw [hv] at z; cases z
theorem b7 (e : ps = []) : NotS (.tuple [.int ri, .int ro, .tuple [.tuple [.tuple [.int 0], .tuple [], .int 0]], .tuple (sh.map PyData.int)]) := by
  have z := perm_len B.oi
  rw [e] at z
  have h0 := B.hi
  have z : (0 : Nat) = ri.toNat := z
  have r0 : ri = 0 := by omega
  subst r0
  refine notS (ps := [⟨[0], [], .int 0⟩]) ⟨by simp, fun p hp => ?_⟩ (sh100 B) fun h => ?_
  · rcases List.mem_singleton.mp hp with rfl
    simp
  · have z := (surf_true h).1 ⟨[0], [], .int 0⟩ (by simp)
    have e : setI [0] 0 = false := by decide
    simp [partB, e] at z
theorem b8 {at_ : Nat} {p : Pt} {v : D} (hp : ps[at_]? = some p) (hv : wholeD v 0 60 = false) : NotS (.tuple [.int ri, .int ro, .tuple ((ps.map Pt.enc).take at_ ++ (.tuple [tI p.ins, tI p.outs, v] :: (ps.map Pt.enc).drop (at_ + 1))), .tuple (sh.map PyData.int)]) := by
  have lp := B.lp
  have e : (ps.map Pt.enc).take at_ ++ (.tuple [tI p.ins, tI p.outs, v] :: (ps.map Pt.enc).drop (at_ + 1)) = (ps.take at_ ++ (⟨p.ins, p.outs, v⟩ :: ps.drop (at_ + 1))).map Pt.enc := by
    rw [List.map_append, List.map_cons, List.map_take, List.map_drop]
    rfl
  rw [e]
  refine notS ⟨by simp; omega, fun q hq => ?_⟩ (sh100 B) fun h => ?_
  · rcases List.mem_append.mp hq with hq | hq
    · exact B.small.2 q (List.mem_of_mem_take hq)
    · rcases List.mem_cons.mp hq with rfl | hq
      · exact B.small.2 p (List.mem_of_getElem? hp)
      · exact B.small.2 q (List.mem_of_mem_drop hq)
  · have z := (surf_true h).1 ⟨p.ins, p.outs, v⟩ (by simp)
    unfold partB at z
    rw [show wholeD (Pt.mk p.ins p.outs v).h 0 60 = false from hv] at z
    cases z
end
theorem bent_run {ri ro : Int} {ps : List Pt} {sh : List Int} {xs : List D} (hc : Cup xs) (B : Built ri ro ps sh) : Wd (m__law_bent [some (.io xs), some (.frz (surf ri ro ps (sh.map PyData.int))), none, none, none, none, none, none, none]) fun f ρ => ∃ v ys rest, f = .ret (.fz v) ∧ ρ = some (.io ys) :: rest ∧ Cup ys ∧ NotS v := by
  unfold m__law_bent surf
  have lp := B.lp
  have ls := B.ls
  simp
  refine wd_roll hc (by omega) (by omega) fun r ys hy r0 r1 => ?_
  have A2 := add_tt (xs := ps.map Pt.enc) (ys := [.tuple [.tuple [], .tuple [], .int 0]]) (by simp; omega)
  have A3 := add_tt (xs := sh.map PyData.int) (ys := [.int (-1)]) (by simp; omega)
  have A4 := add_tt (xs := [.int 61]) (ys := sh.map PyData.int) (by simp; omega)
  have A6 := add_tt (xs := sh.map PyData.int) (ys := [.none]) (by simp; omega)
  have L5 : fLst [.int (-1), .int 61, .none, .bool true, .str "0"] = some (.fr [.int (-1), .int 61, .none, .bool true, .str "0"]) := rfl
  have N1 : fNe (.tuple (ps.map Pt.enc)) (.tuple []) = some (.fz (.bool (!ps.isEmpty))) := by rw [ne_unitL]; simp
  have N2 : fEq (.tuple (ps.map Pt.enc)) (.tuple []) = some (.fz (.bool ps.isEmpty)) := by rw [eq_unitL]; simp
  have F0 := b0 B
  have F1 := b1 B
  have F2 := b2 B
  have F3 := b3 B (v := .int (-1)) rfl
  have F4 := b4 B (v := .int 61) rfl
  have F5 := list_parts ri ro (ps.map Pt.enc) (sh.map PyData.int)
  have F6 := b3 B (v := .none) rfl
  cases hps : ps.isEmpty with
  | true =>
    rw [hps] at N1 N2
    have F7 := b7 B (List.isEmpty_iff.mp hps)
    simp [tup0, tup1, tup3, tup4, hy, A2, A3, A4, A6, N1, N2, F0, F1, F2, F3, F4, F5, F6, F7]
  | false =>
    rw [hps] at N1 N2
    have ne : ps ≠ [] := fun e => by rw [e] at hps; cases hps
    have lpos : 0 < ps.length := List.length_pos_iff.mpr ne
    simp [tup0, tup1, tup3, tup4, hy, A2, A3, A4, A6, N1, N2, F0, F1, F2, F3, F4, F5, F6]
    intro _ _ _ _ _ _ _
    refine wd_roll hy (by omega) (by omega) fun a c1 hc1 a0 a1 => ?_
    simp [L5, N2]
    refine wd_some hc1 fun v c2 hc2 hv => ?_
    obtain ⟨p, hp⟩ : ∃ p, ps[a.toNat]? = some p := ⟨_, List.getElem?_eq_getElem (by omega)⟩
    have F8 := b8 B hp hv
    have c1 : cutD (ps.map Pt.enc) none (some a) = (ps.map Pt.enc).take a.toNat := by
      have := cutD_to (xs := ps.map Pt.enc) (hi := a.toNat)
      rwa [Int.toNat_of_nonneg a0] at this
    have c2 : cutD (ps.map Pt.enc) (some (a + 1)) none = (ps.map Pt.enc).drop (a.toNat + 1) := by
      have := cutD_from (xs := ps.map Pt.enc) (lo := a.toNat + 1)
      rwa [show ((a.toNat + 1 : Nat) : Int) = a + 1 by omega] at this
    have d1 := add_tt (xs := (ps.map Pt.enc).take a.toNat) (ys := [.tuple [tI p.ins, tI p.outs, v]]) (by simp; omega)
    have d2 := add_tt (xs := (ps.map Pt.enc).take a.toNat ++ [.tuple [tI p.ins, tI p.outs, v]]) (ys := (ps.map Pt.enc).drop (a.toNat + 1)) (by simp; omega)
    have d3 : (ps.map Pt.enc).take a.toNat ++ [.tuple [tI p.ins, tI p.outs, v]] ++ (ps.map Pt.enc).drop (a.toNat + 1) = (ps.map Pt.enc).take a.toNat ++ (.tuple [tI p.ins, tI p.outs, v] :: (ps.map Pt.enc).drop (a.toNat + 1)) := by simp
    rw [d3] at d2
    simp [optM, c1, c2, atI_toNat a0, hp, Pt.enc, tup1, tup3, tup4]
    rw [d1, opP_some, x_fz, d2, opP_some, x_fz]
    exact ⟨hc2, F8⟩
theorem bent_ok {ri ro : Int} {ps : List Pt} {sh : List Int} {xs : List D} (hc : Cup xs) (B : Built ri ro ps sh) : ∃ v ys rest, p__law_bent [.io xs, .frz (surf ri ro ps (sh.map PyData.int))] = .ok (.fz v) (some (.io ys) :: rest) ∧ Cup ys ∧ NotS v := by
  obtain ⟨f, ρ, e, v, ys, rest, rfl, rfl, h1, h2⟩ := (bent_run hc B).get
  exact ⟨v, ys, rest, pf_ret e, h1, h2⟩
end La
set_option Elab.async false
set_option linter.all false
set_option maxRecDepth 100000
set_option maxHeartbeats 8000000
namespace La
open PySem L2 PyProof.Rows Pu
theorem like4 : resV (p__law_like 20 [.frz (.list [.bool true, .bool false, .bool false, .bool false]), .frz (.list [.bool true, .bool false, .bool false, .bool false])]) = some (.fz (.bool true)) := by kernel_rfl
theorem like2 (a b : Bool) : resV (p__law_like 20 [.frz (.list [.bool a, .bool b]), .frz (.list [.bool a, .bool b])]) = some (.fz (.bool true)) := by
  cases a <;> cases b <;> kernel_rfl
theorem written : resV (p__law_written_right []) = some (.fz (.bool true)) := by kernel_rfl
theorem notS_list (xs : List D) : NotS (.list xs) := by
  refine pf_ans ?_
  unfold m_is_surface
  have t4 : tupD (.list xs) 4 4 = false := rfl
  simp [is_tuple_of, t4]
theorem notS_three (a b c : D) : NotS (.tuple [a, b, c]) := by
  refine pf_ans ?_
  unfold m_is_surface
  have t4 : tupD (.tuple [a, b, c]) 4 4 = false := rfl
  simp [is_tuple_of, t4]
theorem adj_rev {l : List D} (h : l.Pairwise (fun a b => PySem.W.dataLt a b = true)) (hn : ∀ x ∈ l, ∀ i, x ≠ .int i) : adj ltD l.reverse = decide (l.length < 2) := by
  have h2 : l.reverse.Pairwise (fun a b => PySem.W.dataLt b a = true) := List.pairwise_reverse.mpr h
  have hl : l.reverse.length = l.length := List.length_reverse
  have hm : ∀ x ∈ l.reverse, ∀ i, x ≠ .int i := fun x hx => hn x (List.mem_reverse.mp hx)
  rw [← hl]
  match hr : l.reverse with
  | [] => rfl
  | [_] => rfl
  | y :: x :: r =>
    rw [hr] at h2 hm
    have h3 : PySem.W.dataLt x y = true := List.rel_of_pairwise_cons h2 List.mem_cons_self
    have h4 : ltD y x = PySem.W.dataLt y x := by
      unfold ltD
      split
      · exact absurd rfl (hm _ List.mem_cons_self _)
      · rfl
    have h5 : PySem.W.dataLt y x = false := by
      cases q : PySem.W.dataLt y x with
      | false => rfl
      | true =>
        have z := dataLt_trans h3 q
        rw [dataLt_irr] at z; cases z
    show (ltD y x && _) = _
    rw [h4, h5]
    simp
theorem rise_rev {sh : List Int} (h : sh.Pairwise (· ≤ ·)) : adj leI (sh.reverse.map PyData.int) = decide (sh.reverse = sh) := by
  rw [adj_ints leI (fun i j => decide (i ≤ j)) fun i j => rfl]
  by_cases e : sh.reverse = sh
  · rw [decide_eq_true e, e]
    exact adjI_of (h.imp fun h => decide_eq_true h)
  · rw [decide_eq_false e]
    cases q : adjI (fun i j => decide (i ≤ j)) sh.reverse with
    | false => rfl
    | true =>
      refine absurd (up_unique (List.reverse_perm sh) ?_ h) e
      have key : ∀ {l : List Int}, adjI (fun i j => decide (i ≤ j)) l = true → l.Pairwise (· ≤ ·) := by
        intro l
        induction l with
        | nil => intro _; exact .nil
        | cons x l ih =>
          intro hq
          cases l with
          | nil => simp
          | cons y r =>
            have hq : (decide (x ≤ y) && adjI (fun i j => decide (i ≤ j)) (y :: r)) = true := hq
            rw [Bool.and_eq_true, decide_eq_true_eq] at hq
            have z := ih hq.2
            refine List.pairwise_cons.mpr ⟨fun w hw => ?_, z⟩
            rcases List.mem_cons.mp hw with rfl | hw
            · exact hq.1
            · exact Int.le_trans hq.1 (List.rel_of_pairwise_cons z hw)
      exact key q
section
variable {ri ro : Int} {ps : List Pt} {sh : List Int} (B : Built ri ro ps sh)
include B
theorem j_true : resV (p_is_surface [.frz (surf ri ro ps (sh.map PyData.int))]) = some (.fz (.bool true)) := by
  rw [is_surface B.small (sh100 B), built_true B]
theorem j_turned : resV (p_is_surface [.frz (surf ri ro ps.reverse (sh.map PyData.int))]) = some (.fz (.bool (decide (ps.length < 2)))) := by
  have lp := B.lp
  rw [is_surface ⟨by rw [List.length_reverse]; omega, fun p hp => B.small.2 p (List.mem_reverse.mp hp)⟩ (sh100 B)]
  congr 3
  have T := built_true B
  have e := adj_rev B.asc fun x hx i => by
    obtain ⟨p, _, rfl⟩ := List.mem_map.mp hx
    exact fun z => by cases z
  rw [List.length_map, ← List.map_reverse] at e
  unfold surfB at T ⊢
  rw [e, List.length_reverse]
  have o1 : onceB (ps.reverse.map Pt.ins) ri = true := once_of (((List.reverse_perm ps).map Pt.ins).flatten.trans B.oi)
  have o2 : onceB (ps.reverse.map Pt.outs) ro = true := once_of (((List.reverse_perm ps).map Pt.outs).flatten.trans B.oo)
  rw [o1, o2, List.all_reverse]
  simp only [Bool.and_eq_true] at T
  rw [T.1, T.2.1, T.2.2.1, T.2.2.2.1, T.2.2.2.2.1, T.2.2.2.2.2.1, T.2.2.2.2.2.2.1]
  rfl
theorem j_shuffled : resV (p_is_surface [.frz (surf ri ro ps (sh.reverse.map PyData.int))]) = some (.fz (.bool (decide (sh.reverse = sh)))) := by
  have ls := B.ls
  rw [is_surface B.small (by rw [List.length_map, List.length_reverse]; omega)]
  congr 3
  have T := built_true B
  unfold surfB at T ⊢
  rw [rise_rev B.ss]
  simp only [Bool.and_eq_true] at T
  have e1 : ((sh.reverse.map PyData.int).all fun v => wholeD v 0 60) = true := by
    rw [List.map_reverse, List.all_reverse]
    exact T.2.2.2.2.2.1
  have e2 : decide ((sh.reverse.map PyData.int).length ≤ 20) = true := by
    rw [List.length_map, List.length_reverse]
    exact decide_eq_true (by omega)
  rw [e1, e2, T.1, T.2.1, T.2.2.1, T.2.2.2.1, T.2.2.2.2.2.2.2.1, T.2.2.2.2.2.2.2.2.1, T.2.2.2.2.2.2.2.2.2]
  simp
end
end La
set_option Elab.async false
set_option linter.all false
set_option maxRecDepth 100000
set_option maxHeartbeats 8000000
namespace La
open PySem L2 PyProof.Rows Pu
theorem wd_surface {ρ : Ev} {i : Nat} {hs : List Hd} {xs : List D} {Q : Hd → Ev → Prop} (hc : Cup xs) (h : ∀ ri ro ps sh ys, Cup ys → Built ri ro ps sh → Q (.v (.fz (surf ri ro ps (sh.map PyData.int)))) (setAt i ys ρ)) : Wd (callBack (.s i :: hs) [.io xs] ρ (p__law_surface [.io xs])) Q := by
  obtain ⟨ri, ro, ps, sh, ys, rest, e, h1, h2⟩ := surface_ok hc
  rw [e]
  exact h ri ro ps sh ys h1 h2
theorem wd_bent {ρ : Ev} {i : Nat} {hs : List Hd} {xs : List D} {Q : Hd → Ev → Prop} {ri ro : Int} {ps : List Pt} {sh : List Int} (hc : Cup xs) (B : Built ri ro ps sh) (h : ∀ v ys, Cup ys → NotS v → Q (.v (.fz v)) (setAt i ys ρ)) :
    Wd (callBack (.s i :: hs) [.io xs, .frz (surf ri ro ps (sh.map PyData.int))] ρ (p__law_bent [.io xs, .frz (surf ri ro ps (sh.map PyData.int))])) Q := by
  obtain ⟨v, ys, rest, e, h1, h2⟩ := bent_ok hc B
  rw [e]
  exact h v ys h1 h2
theorem right_run {xs : List D} (hc : Cup xs) : Wd (m__law_surfaces_right [some (.io xs), none, none, none, none, none]) fun f ρ => ∃ ys rest, f = .ret (.fz (.bool true)) ∧ ρ = some (.io ys) :: rest ∧ Cup ys := by
  unfold m__law_surfaces_right
  simp
  refine wd_surface hc fun ri ro ps sh c1 hc1 B => ?_
  simp
  refine wd_bent hc1 B fun v c2 hc2 hv => ?_
  have J1 := j_true B
  have J2 : resV (p_is_surface [.frz v]) = some (.fz (.bool false)) := hv
  have J3 := notS_list [.int ri, .int ro, .tuple (ps.map Pt.enc), .tuple (sh.map PyData.int)]
  have J4 := notS_three (.int ri) (.int ro) (.tuple (ps.map Pt.enc))
  have J5 := j_turned B
  have J6 := j_shuffled B
  unfold NotS at J3 J4
  unfold surf at J1 J5 J6
  have k3 : cutD [PyData.int ri, .int ro, .tuple (ps.map Pt.enc), .tuple (sh.map PyData.int)] none (some 3) = [.int ri, .int ro, .tuple (ps.map Pt.enc)] := cutD_to (hi := 3)
  have k2 : cutD [PyData.int ri, .int ro, .tuple (ps.map Pt.enc), .tuple (sh.map PyData.int)] none (some 2) = [.int ri, .int ro] := cutD_to (hi := 2)
  have l4 : fLst [.bool true, .bool false, .bool false, .bool false] = some (.fr [.bool true, .bool false, .bool false, .bool false]) := rfl
  have l2 : ∀ a b : Bool, fLst [.bool a, .bool b] = some (.fr [.bool a, .bool b]) := fun _ _ => rfl
  have t2 : ∀ a b : D, fTup [a, b] = some (.fz (.tuple [a, b])) := fun _ _ => rfl
  have A1 := add_tt (xs := [.int ri, .int ro]) (ys := [.tuple (ps.map Pt.enc).reverse, .tuple (sh.map PyData.int)]) (by simp)
  have A2 := add_tt (xs := [.int ri, .int ro, .tuple (ps.map Pt.enc)]) (ys := [.tuple (sh.map PyData.int).reverse]) (by simp)
  have E1 : fEq (.tuple (sh.map PyData.int).reverse) (.tuple (sh.map PyData.int)) = some (.fz (.bool (decide (sh.reverse = sh)))) := by
    rw [← List.map_reverse]
    unfold fEq
    have e : small (.tuple (sh.reverse.map PyData.int)) (.tuple (sh.map PyData.int)) = true := by
      unfold small
      rw [PyData.depth, PyData.depth, depth_ints, depth_ints]
      rfl
    rw [if_pos e, PyData.eqv, eqv_ints]
  have E2 : (decide ((ps.length : Int) < 2)) = decide (ps.length < 2) := by
    by_cases h : ps.length < 2
    · rw [decide_eq_true h, decide_eq_true (by omega)]
    · rw [decide_eq_false h, decide_eq_false (by omega)]
  rw [List.map_reverse] at J5 J6
  simp [surf, J1, J2, J3, k3, optM, J4, l4, like4, k2, t2, tup1]
  rw [A1, opP_some, A2, opP_some]
  simp [J5, J6, l2, E1, E2, like2, hc2]
theorem right_ok {xs : List D} (hc : Cup xs) : ∃ ys rest, p__law_surfaces_right [.io xs] = .ok (.fz (.bool true)) (some (.io ys) :: rest) ∧ Cup ys := by
  obtain ⟨f, ρ, e, ys, rest, rfl, rfl, h1⟩ := (right_run hc).get
  exact ⟨ys, rest, pf_ret e, h1⟩
theorem wd_right {ρ : Ev} {i : Nat} {hs : List Hd} {xs : List D} {Q : Hd → Ev → Prop} (hc : Cup xs) (h : ∀ ys, Cup ys → Q (.v (.fz (.bool true))) (setAt i ys ρ)) : Wd (callBack (.s i :: hs) [.io xs] ρ (p__law_surfaces_right [.io xs])) Q := by
  obtain ⟨ys, rest, e, h1⟩ := right_ok hc
  rw [e]
  exact h ys h1
def Ila (ns : List Int) (dn : List D) (ρ : Ev) : Prop := ∃ (cup : List D) (x : Option Sl), Cup cup ∧ ni x = true ∧ ρ = [some (.frz (.list (dInts ns))), some (.own cup), x]
theorem pure_law (ns : List Int) (hl : ns.length ≤ 63) : ∃ ρ', p_law [.frz (.list (dInts ns))] = .ok (.fz (.bool true)) ρ' := by
  have z : Wd (m_law [some (.frz (.list (dInts ns))), none, none]) fun f _ => f = .ret (.fz (.bool true)) := by
    obtain ⟨c0, hc0, ec⟩ := cup_ok ns hl
    have e12 := rg1 (n := 12) (by omega) (by omega)
    unfold m_law
    simp [written, ec]
    refine wd_forN ((rngI 12).map PyData.int) (Ila ns) (by simp [e12]) ⟨c0, none, hc0, rfl, rfl⟩ (fun dn d rest ρ _ ⟨cup, x, hc, hx, e⟩ => ?_) fun ρ ⟨cup, x, hc, hx, e⟩ => ?_
    · subst e
      simp [hx]
      refine wd_right hc fun ys hy => ?_
      simp
      exact ⟨ys, _, hy, rfl, rfl⟩
    · subst e
      simp
  obtain ⟨f, ρ, e, rfl⟩ := z.get
  exact ⟨ρ, pf_ret e⟩
end La
set_option Elab.async false
set_option linter.all false
set_option maxRecDepth 100000
set_option maxHeartbeats 0
section
/-! ### the head: the run of the top -/
namespace La
open PySem L2 PyProof.Rows Pu
def loose0 : List Str := ["is_whole", "is_tuple_of", "is_ascending", "is_set_below", "is_rising", "RIMS", "HOLES", "SHUT", "is_part", "all_once", "is_surface", "_law_cup", "_law_roll", "_law_some", "_law_sort", "_law_like", "_law_surface", "_law_bent", "_law_surfaces_right", "_law_written_right"]
abbrev looseL : List Str := ["is_whole", "is_tuple_of", "is_ascending", "is_set_below", "is_rising", "RIMS", "HOLES", "SHUT", "is_part", "all_once", "is_surface", "_law_cup", "_law_roll", "_law_some", "_law_sort", "_law_like", "_law_surface", "_law_bent", "_law_surfaces_right", "_law_written_right"]
abbrev rowL : PySem.W.OpenRow := PySem.W.OpenLaw.row PySem.Challenge.rw_surfacestell_k00_whole_surfaces
abbrev hookL : PySem.W.Hook := hookP 4 faL fnL fun _ => true
def obL (s : PySem.W.SharedT) : He.AlD × Bool := obP 4 faL fnL (fun _ => true) (HandSHeadRun.getT s)
theorem obL_eq (s : PySem.W.SharedT) : obL s = hookL.obs s.abs := obP_eq (HandSHeadRun.getT_eq s)
theorem runL (w : World) : HandSHeadRun.RunEq rowL (PySem.W.view rowL.prog [23]) hookL obL 2040 looseL w := by
  intro os
  kernel_rfl
theorem pure_end (hpf : ∀ ns : List Int, ns.length ≤ 63 → ∃ ρ', p_law [.frz (.list (dInts ns))] = .ok (.fz (.bool true)) ρ') : PySem.Challenge.rw_surfacestell_k00_whole_surfaces.Holds := by
  w_on; o_law
  refine HandSHeadRun.head_any (r := rowL) (H := hookL) (ob := obL) (q := PySem.W.view rowL.prog [23]) (d := HandSHeadRun.topDef rowL.prog 23) (loose := looseL) (kwd := []) (M := 2040) obL_eq
    (by kernel_rfl) (fun s => by kernel_rfl) runL (by kernel_rfl) (by kernel_rfl) (by kernel_rfl) (by rfl) (by first | assumption | decide +kernel) (by decide +kernel) ⟨rfl, rfl, rfl, rfl, rfl, by decide +kernel⟩ ?hw ?hc
  case hw => w_witness2
  case hc =>
    refine walk_pu (l := PySem.Challenge.rw_surfacestell_k00_whole_surfaces) (k := 24) (x := "script") (pf := p_law) (XR := fun _ _ _ _ _ => False) rfl (by kernel_rfl) ⟨rfl, by decide, by decide⟩ hpf fun w mg fa h Y G gm => ?_
    obtain ⟨K, X, c, hno, _⟩ := Y
    have e0 : (HandSHeadRun.topDef rowL.prog 23).name = ("law" : Str) := by kernel_rfl
    rw [e0] at gm
    cases gm.symm.trans (He.glo_ok X G (c.fact 17 (f := .glo "law") rfl))
    obtain ⟨fd, FD⟩ := c.def_ 17 (d := d_law) rfl
    exact ⟨K, fd, X, hno, fun s u => FunD.bindsA (ps := ps_law) FD (fun _ _ _ _ _ _ us hl => match us, hl with | [_], _ => rfl) s [u] rfl, fun base _ _ => fk_law X G c FD⟩
end La
end
set_option maxHeartbeats 0
theorem PySem.Challenge.cw_surfacestell_k00_whole_surfaces_holds : PySem.Challenge.rw_surfacestell_k00_whole_surfaces.Holds := by
  exact La.pure_end La.pure_law
