import PyProof.Rows.All
import HandS.Iter
import HandS.Zip
import KE.GoesEnum
import KE.GoesZip
import Wide.All
import OpenK.AllK
import Wide.FinOn
import HandS.ForMost
import HandS.ForExc
import HandS.TupAny
import HandS.TupMul
import KE.DataEq
import KE.DataCmp
import KE.SortData
import HandS.Lambda
import HandS.HeadHook1
import HandS.Conv
import HandS.Style
import HandS.WordsExc
import HandS.ExcCtx
import KE.DataIsa
import HandS.Text
import HandS.Deep
import PyProof.FactsAll.list_0
import PyProof.FactsAll.list_3
import HandS.Ends
import HandS.Hot
import HandS.HotCalls
import PyProof.TupleIter
import HandS.Comp
import HandS.ExcOwn
import PyProof.ExcBaseAll.ValueError
import HandS.HeadHook4
import HandS.Defaults
import HandS.Head0
import HandS.Head1
import HandS.Head2
import HandS.HeadEnd
import HandS.HeadHook2
import HandS.EndTab
import KE.KUnpack
import HandS.ExcIs
import PySem.Challenge.RW_surfacestell_k15_whole_piece_words
set_option Elab.async false
set_option linter.all false
set_option maxRecDepth 100000
set_option maxHeartbeats 2000000
/-! Pz: enumerate and zip of lists and tuples in any mix. -/
namespace Pz
open PySem L2 PyProof.Rows
open PySem.Sem (wp)
/-- a list (true) or a tuple (false), as it stands -/
def IsSq (k : Bool) (h : Heap) (a : Addr) (its : Array Value) : Prop := bif k then h.IsList a its else h.IsTuple a its
def IsSqI (k : Bool) (h : Heap) (it a : Addr) (i : Nat) : Prop := bif k then h.IsListIter it a i else h.IsTupleIter it a i
def itO (k : Bool) (a : Addr) : Obj := bif k then { cls := .type "list_iterator", data := .fields #[.ref a, .int 0 0] } else { cls := .type "tuple_iterator", data := .fields #[.ref a, .int 0 0] }
def SqB (k : Bool) (K : PySem.W.Frag) (H : Hp) (a : Addr) (xs : List V) : Prop := bif k then SqL K H a xs else SqT K H a xs
theorem begins (k : Bool) (a : Addr) (its : Array Value) : Begins (.ref a) (itO k a) fun h => IsSq k h a its := by
  cases k
  · exact begins_tuple a its
  · exact begins_list a its
theorem draws {prog : Program} {w : World} {A : Around} (k : Bool) (hh : A.handled = none) (it a : Addr) (hne : a ≠ it) (its : Array Value) :
    Draws prog w A it [it, a] its.size (fun i v => its[i]? = some v) (fun i h => IsSqI k h it a i ∧ IsSq k h a its) := by
  cases k
  · exact Draws.tuple hh it a hne its
  · exact Draws.list hh it a hne its
theorem iter0 {k : Bool} {h : Heap} {it a : Addr} (e : h.get? it = some (itO k a)) : IsSqI k h it a 0 := by
  cases k
  · exact ⟨_, e, rfl, rfl⟩
  · exact ⟨_, e, rfl, rfl⟩
theorem IsSqI.obj {k : Bool} {h : Heap} {it a : Addr} {i : Nat} (x : IsSqI k h it a i) : ∃ o, h.get? it = some o ∧ ∀ v, o.data ≠ .cell v := by
  cases k
  · obtain ⟨o, e, _, d⟩ := (show h.IsTupleIter it a i from x)
    exact ⟨o, e, fun v q => by rw [d] at q; cases q⟩
  · obtain ⟨o, e, _, d⟩ := (show h.IsListIter it a i from x)
    exact ⟨o, e, fun v q => by rw [d] at q; cases q⟩
theorem IsSqI.at_ {k : Bool} {h h' : Heap} {it a : Addr} {i : Nat} (x : IsSqI k h it a i) (e : ∀ o, h.get? it = some o → h'.get? it = some o) : IsSqI k h' it a i := by
  cases k
  · exact (show h.IsTupleIter it a i from x).at e
  · exact (show h.IsListIter it a i from x).at e
theorem IsSqI.lt {k : Bool} {h : Heap} {it a : Addr} {i : Nat} (x : IsSqI k h it a i) : it < h.objs.size := by
  obtain ⟨o, e, _⟩ := x.obj
  exact Heap.lt_size e
theorem sq {X : Cx} {pins : List (Addr × Obj)} {σ : L2.St} {H : Hp} {s : Shared} {k : Bool} {a : Addr} {xs : List V} (I : Inv X pins σ H s) (h : SqB k X.K H a xs) : ∃ its : List Value, Vals xs its ∧ IsSq k s.heap a its.toArray ∧ a < s.heap.objs.size := by
  cases k
  · obtain ⟨its, rv, p, _⟩ := I.tuple (show SqT X.K H a xs from h)
    obtain ⟨o, ho, _⟩ := id p
    exact ⟨its, rv, p, Heap.lt_size ho⟩
  · obtain ⟨its, rv, p, _⟩ := I.list (show SqL X.K H a xs from h)
    exact ⟨its, rv, p.isList, p.lt⟩
theorem sq_inj {X : Cx} {pins : List (Addr × Obj)} {σ : L2.St} {H : Hp} {s : Shared} {k : Bool} {a : Addr} {xs ys : List V} (I : Inv X pins σ H s) (h : SqB k X.K H a xs) (h' : SqB k X.K H a ys) : xs = ys := by
  cases k
  · exact I.tuple_inj (show SqT X.K H a xs from h) h'
  · exact I.list_inj (show SqL X.K H a xs from h) h'

/-! ### enumerate -/
set_option maxHeartbeats 1000000 in
theorem meets_enum {v : Value} {o : Obj} {H : Heap → Prop} (B : Begins v o H) :
    Meets (Builtin.«enumerate.__new__» ⟨[.type "enumerate", v], []⟩) (fun _ R s => H s.heap ∧
      R (.ok (.ret (.ref (s.heap.push o).objs.size))) { s with heap := (s.heap.push o).push { cls := .type "enumerate", data := .fields #[.none, .bool false, .ref s.heap.objs.size, rawInt 0, .none, .none] } }) :=
  .of_wp fun prog w A R s h => by
    obtain ⟨hp, g, d, tk, os⟩ := s; obtain ⟨h1, h⟩ := h
    have hsub := sub_enumerate
    have q1 : ∀ {A' : Around} {E : Value → Shared → Prop} {Q : Value → Shared → Prop}, Q (.ref hp.objs.size) ⟨hp.push o, g, d, tk, os⟩ → wpAny (model prog w) A' (pyIter v) Q E ⟨hp, g, d, tk, os⟩ :=
      fun q => B.iter prog w _ _ ⟨hp, g, d, tk, os⟩ _ h1 q
    wp_walk using q1
    refine wpAny_stack_any fun st => wpAny_pure ?_
    split
    · rename_i c _ _ _ _ _
      cases (c == Value.type "enumerate")
      · wp_walk using q1
        exact ⟨_, rfl, h⟩
      · wp_walk using q1
        exact ⟨_, rfl, h⟩
    · wp_walk using q1
      exact ⟨_, rfl, h⟩
theorem call_enum {prog : Program} {w : World} {A : Around} {E : Value → Shared → Prop} {s : Shared} {v : Value} {o : Obj} {H : Heap → Prop} {Q : Value → Shared → Prop} (B : Begins v o H) (h1 : H s.heap)
    (h : ∀ h', IsEnum h' (s.heap.objs.size + 1) s.heap.objs.size 0 .none → h'.get? s.heap.objs.size = some o → h'.objs.size = s.heap.objs.size + 2 →
      (∀ b o, s.heap.get? b = some o → h'.get? b = some o) → Q (.ref (s.heap.objs.size + 1)) { s with heap := h' }) :
    wpAny (model prog w) A (call (.type "enumerate") [v]) Q E s := by
  refine callType_new F.called_enumerate (by decide) (F.typeCall_enumerate_1 _) (F.newCall_enumerate_1 _) (fun obj => F.args_object_init_2 obj _) F.entry_enumerate_new
    (meets_enum B) ⟨h1, ?_⟩
  have hz : (s.heap.push o).objs.size = s.heap.objs.size + 1 := Heap.size_push ..
  show _ ∧ _
  rw [hz]
  have he : IsEnum ((s.heap.push o).push { cls := .type "enumerate", data := .fields #[.none, .bool false, .ref s.heap.objs.size, rawInt 0, .none, .none] }) (s.heap.objs.size + 1) s.heap.objs.size 0 .none := by
    have := Heap.get?_push_size (s.heap.push o) (o := { cls := .type "enumerate", data := .fields #[.none, .bool false, .ref s.heap.objs.size, rawInt 0, .none, .none] }) rfl
    rw [hz] at this; exact this
  refine ⟨⟨_, he, rfl⟩, h _ he (Heap.get?_push_of_some _ (Heap.get?_push_size _ B.free)) (by rw [Heap.size_push, hz]) fun b o x => Heap.get?_push_of_some _ (Heap.get?_push_of_some _ x)⟩
def Ite (k : Bool) (K : PySem.W.Frag) (a : Addr) : It :=
  ⟨fun i H => ∃ (xs : List V) (x : V), SqB k K H a xs ∧ xs[i]? = some x, fun i H v H' => ∃ T x, v = .ref T ∧ H T = none ∧ H' = upd H T (.tup [.int (i : Nat), x]) ∧ ∀ xs, SqB k K H a xs → xs[i]? = some x, fun i H => ∃ xs : List V, SqB k K H a xs ∧ i = xs.length⟩
theorem turn_enum {P : Program} {w : World} {K : PySem.W.Frag} {elts : List Expr} {kk : Nat} {tpos : Pos} (k : Bool) (a e it : Addr) :
    Turn P w K (.Tuple elts kk tpos) (Ite k K a) [e, it] e (fun i h => (∃ old, IsEnum h e it ((i : Nat) : Int) old) ∧ IsSqI k h it a i ∧ e ≠ it ∧ a ≠ it ∧ e ≠ a) where
  mem := by simp
  obj := fun i h st b hb => by
    obtain ⟨⟨old, he⟩, hi, _⟩ := st
    have e' : b = e ∨ b = it := by simpa using hb
    rcases e' with z | z
    · rw [z]; exact ⟨_, he, fun v q => nomatch q⟩
    · rw [z]; exact hi.obj
  keep := fun i h h' st k => let ⟨⟨old, he⟩, hi, hne⟩ := st; ⟨⟨old, k e (by simp) _ he⟩, hi.at_ fun o q => k it (by simp) o q, hne⟩
  item := by
    intro X hP hw hK hc i pins s σ H E I hf st hg
    subst hP hw hK
    obtain ⟨⟨old, he⟩, hit, hne, hna, hea⟩ := st
    obtain ⟨xs, x, hq, hx⟩ := hg
    obtain ⟨its, rv, p, hz⟩ := sq I hq
    obtain ⟨u, hu, ru⟩ := rv.get hx
    have hel : e < s.heap.objs.size := Heap.lt_size he
    have hil : it < s.heap.objs.size := hit.lt
    have hlt : i < its.toArray.size := by
      have := (List.getElem?_eq_some_iff.mp hu).1
      simpa using this
    refine wpAny_pyNext_enum_itemD (draws (A := X.A.in1) k (show X.A.in1.handled = none from I.ok.hd hc) it a hna its.toArray) he ⟨hit, p⟩ hlt hne (by simp [hne, hea]) fun u' h' tk hu' ho hit' hT hsz hk => ?_
    have hu' : its[i]? = some u' := by simpa using hu'
    rw [hu] at hu'; cases hu'
    refine ⟨_, rfl, wpAny_letOwnedTupleGo_enum (s := { s with heap := h', toks := tk + 1 }) ho fun h'' he' sb => ?_⟩
    have hT2 : h''.get? s.heap.objs.size = some { cls := .type "tuple", data := .seq #[.int i tk, u] } := (sb.2 _ (Nat.ne_of_gt hel)).trans hT
    have new : ObjOk X.prog X.w (upd H s.heap.objs.size (.tup [.int (i : Nat), x])) h'' s.heap.objs.size (.tup [.int (i : Nat), x]) :=
      ⟨by show 2 ≤ sizeLine; decide, [.int i tk, u], .cons ⟨_, rfl⟩ (.cons ru .nil), ⟨_, hT2, rfl, _, rfl⟩⟩
    have I1 : Inv X pins σ (upd H s.heap.objs.size (.tup [.int (i : Nat), x])) { s with heap := h'', toks := tk + 1 } :=
      I.turnedNew (ch := [e, it]) (fun b ob hb q => (sb.2 b (fun z => hb (by simp [z]))).trans (hk b ob (fun z => hb (by simp [z])) (fun z => hb (by simp [z])) q)) hf (Nat.le_refl _) new
    refine ⟨.ref s.heap.objs.size, _, I1, rfl, ⟨_, x, rfl, I.hok.fresh (Nat.le_refl _), rfl, fun ys hy => by rw [sq_inj I hy hq]; exact hx⟩, ⟨⟨u, ?_⟩, hit'.1.at_ fun o q => (sb.2 it (Ne.symm hne)).trans q, hne, hna, hea⟩, fun b hb => ?_⟩
    · have e1 : ((i + 1 : Nat) : Int) = (i : Int) + 1 := by omega
      rw [e1]; exact he'
    · have hb' : b < s.heap.objs.size := by
        have e' : b = e ∨ b = it := by simpa using hb
        rcases e' with z | z
        · rw [z]; exact hel
        · rw [z]; exact hil
      rw [upd_ne (Nat.ne_of_lt hb')]
      exact (hf b hb).1
  done := by
    intro X hP hw hK hc i pins s σ H E I hf st hg
    subst hP hw hK
    obtain ⟨⟨old, he⟩, hit, hne, hna, hea⟩ := st
    obtain ⟨xs, hq, hx⟩ := hg
    obtain ⟨its, rv, p, hz⟩ := sq I hq
    obtain ⟨f0, f1, f2, f3, f4, f5⟩ := hf it (by simp)
    have hl := rv.length
    have hn : its.toArray.size = i := by simp; omega
    have st : IsSqI k s.heap it a its.toArray.size ∧ IsSq k s.heap a its.toArray := ⟨by rw [hn]; exact hit, p⟩
    exact wpAny_pyNext_enum_endD (draws (A := X.A.in1) k (show X.A.in1.handled = none from I.ok.hd hc) it a hna its.toArray) he st fun h' eb => ⟨rfl, I.turned (t' := s.toks) (fun b o hb q => eb b o hb q) f0 f1 f3 f4 f5⟩
  self := fun A i s Q E st h => let ⟨⟨_, he⟩, _⟩ := st; wpAny_pyIter_enum he h
def iEnum (K : PySem.W.Frag) (ta : TA) : TI := fun σ H R => ta σ H fun vs H1 => ∃ k a xs, vs = [.ref a] ∧ SqB k K H1 a xs ∧ R (Ite k K a) H1
theorem pi_enum {X : Cx} {e : Expr} {ta : TA} {p pos tpos : Pos} {elts : List Expr} {kk : Nat} (hg : Gl X "enumerate") (hm : X.mg "enumerate" = none) (ha : PA X [e] ta) (hs : starEach [e] X.env = [(false, eval e X.env)] := by rfl) :
    PI X (.Tuple elts kk tpos) (.Call (.Name "enumerate" p) [e] [] pos) (iEnum X.K ta) := by
  refine ⟨fun pins s σ H R I h => ?_⟩
  refine Call_ (ld_blt I hg hm boot_enumerate (PyProof.Rows.callWith_type1 (thn (ha.run pos pins s σ H _ I h) fun us s1 ⟨vs, H1, I1, r1, q1⟩ => ?_) hs rfl))
  obtain ⟨k, a, xs, ex, hq, q⟩ := q1
  subst ex
  cases r1 with
  | cons r rr =>
    cases rr
    cases r
    obtain ⟨its, rv, p', hz⟩ := sq I1 hq
    refine call_enum (begins k a its.toArray) p' fun h' he hit hsz hk => wpAny_pyIter_enum he ?_
    have I2 : Inv X pins σ H1 { s1 with heap := h' } := I1.kept (t' := s1.toks) hk
    refine ⟨s1.heap.objs.size + 1, [s1.heap.objs.size + 1, s1.heap.objs.size], _, _, H1, rfl, I2, turn_enum k a (s1.heap.objs.size + 1) s1.heap.objs.size, ⟨⟨.none, he⟩, iter0 hit, Nat.succ_ne_self _, Nat.ne_of_lt hz, Nat.ne_of_gt (Nat.lt_succ_of_lt hz)⟩, fun b hb => ?_, q⟩
    have e' : b = s1.heap.objs.size + 1 ∨ b = s1.heap.objs.size := by simpa using hb
    have hle : s1.heap.objs.size ≤ b := by
      rcases e' with z | z
      · rw [z]; exact Nat.le_add_right _ _
      · rw [z]; exact Nat.le_refl _
    exact I1.fpOk hle (I1.hok.fresh hle)

/-! ### zip -/
def Itz (k l : Bool) (K : PySem.W.Frag) (a b : Addr) : It :=
  ⟨fun i H => ∃ (xs ys : List V) (x y : V), SqB k K H a xs ∧ SqB l K H b ys ∧ xs[i]? = some x ∧ ys[i]? = some y,
    fun i H v H' => ∃ T x y, v = .ref T ∧ H T = none ∧ H' = upd H T (.tup [x, y]) ∧ (∀ xs, SqB k K H a xs → xs[i]? = some x) ∧ ∀ ys, SqB l K H b ys → ys[i]? = some y,
    fun i H => ∃ xs ys : List V, SqB k K H a xs ∧ SqB l K H b ys ∧ i ≤ xs.length ∧ i ≤ ys.length ∧ (i = xs.length ∨ i = ys.length)⟩
theorem not2 {x y z : Nat} (h1 : x ≠ y) (h2 : x ≠ z) : x ∉ [y, z] := by simp [h1, h2]
theorem apart (n a b : Nat) (la : a < n) (lb : b < n) : ZipSep2 (n + 4) (n + 2) (n + 3) n (n + 1) [n, a] [n + 1, b] :=
  ⟨Nat.ne_of_lt (by omega), Nat.ne_of_lt (by omega), Nat.ne_of_lt (by omega), Nat.ne_of_gt (by omega), List.mem_cons_self, not2 (Nat.ne_of_gt (by omega)) (Nat.ne_of_gt (by omega)), not2 (Nat.ne_of_gt (by omega)) (Nat.ne_of_gt (by omega)),
    Nat.ne_of_gt (by omega), List.mem_cons_self, not2 (Nat.ne_of_gt (by omega)) (Nat.ne_of_gt (by omega)), not2 (Nat.ne_of_gt (by omega)) (Nat.ne_of_gt (by omega)), not2 (Nat.ne_of_lt (by omega)) (Nat.ne_of_gt (by omega)), not2 (Nat.ne_of_gt (by omega)) (Nat.ne_of_gt (by omega))⟩
theorem turn_zip {P : Program} {w : World} {K : PySem.W.Frag} {elts : List Expr} {kk : Nat} {tpos : Pos} (k l : Bool) {a b z TI TO i1 i2 : Addr} (D : ZipSep2 z TI TO i1 i2 [i1, a] [i2, b]) :
    Turn P w K (.Tuple elts kk tpos) (Itz k l K a b) [z, TI, TO, i1, i2] z (fun i h => IsZip h z TI TO .none ∧ IsTupOf2 h TI (.ref i1) (.ref i2) ∧ (∃ x y, IsTupOf2 h TO x y) ∧ IsSqI k h i1 a i ∧ IsSqI l h i2 b i ∧ a ≠ i1 ∧ b ≠ i2) where
  mem := by simp
  obj := fun i h st c hc => by
    obtain ⟨hz, hTI, ⟨x, y, hTO⟩, h1, h2, _⟩ := st
    have e' : c = z ∨ c = TI ∨ c = TO ∨ c = i1 ∨ c = i2 := by simpa using hc
    rcases e' with q | q | q | q | q
    · rw [q]; exact ⟨_, hz, fun v q => nomatch q⟩
    · rw [q]; exact ⟨_, hTI, fun v q => nomatch q⟩
    · rw [q]; exact ⟨_, hTO, fun v q => nomatch q⟩
    · rw [q]; exact h1.obj
    · rw [q]; exact h2.obj
  keep := fun i h h' st kp => by
    obtain ⟨hz, hTI, ⟨x, y, hTO⟩, h1, h2, hn⟩ := st
    exact ⟨kp z (by simp) _ hz, kp TI (by simp) _ hTI, ⟨x, y, kp TO (by simp) _ hTO⟩, h1.at_ fun o q => kp i1 (by simp) o q, h2.at_ fun o q => kp i2 (by simp) o q, hn⟩
  item := by
    intro X hP hw hK hc i pins s σ H E I hf st hg
    subst hP hw hK
    obtain ⟨hz, hTI, ⟨x0, y0, hTO⟩, h1, h2, na, nb⟩ := st
    obtain ⟨xs, ys, x, y, hqx, hqy, hx, hy⟩ := hg
    obtain ⟨its, rv, p, _⟩ := sq I hqx
    obtain ⟨its2, rv2, p2, _⟩ := sq I hqy
    obtain ⟨u, hu, ru⟩ := rv.get hx
    obtain ⟨u2, hu2, ru2⟩ := rv2.get hy
    have hzl : z < s.heap.objs.size := Heap.lt_size hz
    have l1 : i < its.toArray.size := by have := (List.getElem?_eq_some_iff.mp hu).1; simpa using this
    have l2 : i < its2.toArray.size := by have := (List.getElem?_eq_some_iff.mp hu2).1; simpa using this
    refine wpAny_pyNext_zipD2_item D (draws (A := X.A.in1) k (show X.A.in1.handled = none from I.ok.hd hc) i1 a na its.toArray) (draws (A := X.A.in1) l (show X.A.in1.handled = none from I.ok.hd hc) i2 b nb its2.toArray) hz hTI hTO ⟨h1, p⟩ ⟨h2, p2⟩ l1 l2 fun v1 v2 h' tk e1 e2 z' TO' h1' h2' hT hsz hk => ?_
    have e1 : its[i]? = some v1 := by simpa using e1
    have e2 : its2[i]? = some v2 := by simpa using e2
    rw [hu] at e1; cases e1
    rw [hu2] at e2; cases e2
    refine ⟨_, rfl, wpAny_letOwnedTupleGo_zip (s := { s with heap := h', toks := tk }) z' fun h'' z'' sb => ?_⟩
    have hT2 : h''.get? s.heap.objs.size = some { cls := .type "tuple", data := .seq #[u, u2] } := (sb.2 _ (Nat.ne_of_gt hzl)).trans hT
    have new : ObjOk X.prog X.w (upd H s.heap.objs.size (.tup [x, y])) h'' s.heap.objs.size (.tup [x, y]) :=
      ⟨by show 2 ≤ sizeLine; decide, [u, u2], .cons ru (.cons ru2 .nil), ⟨_, hT2, rfl, _, rfl⟩⟩
    have I1 : Inv X pins σ (upd H s.heap.objs.size (.tup [x, y])) { s with heap := h'', toks := tk } :=
      I.turnedNew (t' := tk) (ch := [z, TI, TO, i1, i2]) (fun c o hb q => (sb.2 c (fun q' => hb (by simp [q']))).trans (hk c o (fun q' => hb (by simp [q'])) (fun q' => hb (by simp [q'])) (fun q' => hb (by simp [q'])) (fun q' => hb (by simp [q'])) q)) hf (Nat.le_refl _) new
    refine ⟨.ref s.heap.objs.size, _, I1, rfl, ⟨_, x, y, rfl, I.hok.fresh (Nat.le_refl _), rfl, fun m hl => by rw [sq_inj I hl hqx]; exact hx, fun m hl => by rw [sq_inj I hl hqy]; exact hy⟩, ⟨z'', ?_, ⟨u, u2, ?_⟩, ?_, ?_, na, nb⟩, fun c hcm => ?_⟩
    · exact (sb.2 _ D.TIz).trans (hk _ _ D.TIz D.TITO D.TIi1 D.TIi2 hTI)
    · exact (sb.2 _ D.TOz).trans TO'
    · exact h1'.1.at_ fun o q => (sb.2 _ D.zi1.symm).trans q
    · exact h2'.1.at_ fun o q => (sb.2 _ D.zi2.symm).trans q
    · have hlt : c < s.heap.objs.size := by
        have e' : c = z ∨ c = TI ∨ c = TO ∨ c = i1 ∨ c = i2 := by simpa using hcm
        rcases e' with q | q | q | q | q
        · rw [q]; exact hzl
        · rw [q]; exact Heap.lt_size hTI
        · rw [q]; exact Heap.lt_size hTO
        · rw [q]; exact h1.lt
        · rw [q]; exact h2.lt
      rw [upd_ne (Nat.ne_of_lt hlt)]
      exact (hf c hcm).1
  done := by
    intro X hP hw hK hc i pins s σ H E I hf st hg
    subst hP hw hK
    obtain ⟨hz, hTI, ⟨x0, y0, hTO⟩, h1, h2, na, nb⟩ := st
    obtain ⟨xs, ys, hqx, hqy, g1, g2, hend⟩ := hg
    obtain ⟨its, rv, p, _⟩ := sq I hqx
    obtain ⟨its2, rv2, p2, _⟩ := sq I hqy
    have l1 := rv.length
    have l2 := rv2.length
    have s1 : its.toArray.size = xs.length := by simp; omega
    have s2 : its2.toArray.size = ys.length := by simp; omega
    exact wpAny_pyNext_zipD2_end D (draws (A := X.A.in1) k (show X.A.in1.handled = none from I.ok.hd hc) i1 a na its.toArray) (draws (A := X.A.in1) l (show X.A.in1.handled = none from I.ok.hd hc) i2 b nb its2.toArray) hz hTI hTO ⟨h1, p⟩ ⟨h2, p2⟩ (by rw [s1]; exact g1) (by rw [s2]; exact g2) (by rw [s1, s2]; exact hend) fun h' tk hk => ⟨rfl, I.turnedL (t' := tk) (ch := [z, TI, TO, i1, i2]) (fun c o hb q =>
      hk c o (fun q' => hb (by simp [q'])) (fun q' => hb (by simp [q'])) (fun q' => hb (by simp [q'])) (fun q' => hb (by simp [q'])) q) hf⟩
  self := fun A i s Q E st h => wpAny_pyIter_zip st.1 h
def iZip (K : PySem.W.Frag) (ta : TA) : TI := fun σ H R => ta σ H fun vs H1 => ∃ k l a b xs ys, vs = [.ref a, .ref b] ∧ SqB k K H1 a xs ∧ SqB l K H1 b ys ∧ R (Itz k l K a b) H1
theorem pi_zip {X : Cx} {e e2 : Expr} {ta : TA} {p pos tpos : Pos} {elts : List Expr} {kk : Nat} (hg : Gl X "zip") (hm : X.mg "zip" = none) (ha : PA X [e, e2] ta)
    (hs : starEach [e, e2] X.env = (false, eval e X.env) :: starEach [e2] X.env := by rfl) (hpl : (backTo pos (starEach [e2] X.env)).any (·.1) = false := by rfl) :
    PI X (.Tuple elts kk tpos) (.Call (.Name "zip" p) [e, e2] [] pos) (iZip X.K ta) := by
  refine ⟨fun pins s σ H R I h => ?_⟩
  refine Call_ (ld_blt I hg hm PyProof.Rows.boot_zip (PyProof.Rows.callWith_type1 (thn (ha.run pos pins s σ H _ I h) fun us s1 ⟨vs, H1, I1, r1, q1⟩ => ?_) hs hpl))
  obtain ⟨k, l, a, b, xs, ys, ex, hqx, hqy, q⟩ := q1
  subst ex
  cases r1 with
  | cons r rr =>
    cases rr with
    | cons r' rr =>
      cases rr
      cases r
      cases r'
      obtain ⟨its, rv, p1, la⟩ := sq I1 hqx
      obtain ⟨its2, rv2, p2, lb⟩ := sq I1 hqy
      refine zip_begins2 (begins k a its.toArray) (begins l b its2.toArray) p1 p2 fun h' hz hTI hTO h1 h2 hsz hk => wpAny_pyIter_zip hz ?_
      have I2 : Inv X pins σ H1 { s1 with heap := h' } := I1.kept (t' := s1.toks) hk
      refine ⟨s1.heap.objs.size + 4, [s1.heap.objs.size + 4, s1.heap.objs.size + 2, s1.heap.objs.size + 3, s1.heap.objs.size, s1.heap.objs.size + 1], _, _, H1, rfl, I2, turn_zip k l (apart s1.heap.objs.size a b la lb), ⟨hz, hTI, ⟨_, _, hTO⟩, iter0 h1, iter0 h2, Nat.ne_of_lt la, Nat.ne_of_lt (Nat.lt_succ_of_lt lb)⟩, fun c hcm => ?_, q⟩
      have e' : c = s1.heap.objs.size + 4 ∨ c = s1.heap.objs.size + 2 ∨ c = s1.heap.objs.size + 3 ∨ c = s1.heap.objs.size ∨ c = s1.heap.objs.size + 1 := by simpa using hcm
      have hle : s1.heap.objs.size ≤ c := by
        rcases e' with z | z | z | z | z
        · rw [z]; exact Nat.le_add_right _ _
        · rw [z]; exact Nat.le_add_right _ _
        · rw [z]; exact Nat.le_add_right _ _
        · rw [z]; exact Nat.le_refl _
        · rw [z]; exact Nat.le_add_right _ _
      exact I1.fpOk hle (I1.hok.fresh hle)
end Pz
set_option Elab.async false
set_option linter.all false
set_option maxRecDepth 100000
/-! Pu1: the pure layer: data, slots, states, steps. -/
namespace Pu
open PySem L2

abbrev D := PyData

/-- a value that an expression gives: shared for good, or a list just made -/
inductive RV where
  | fz (d : D)
  | fr (xs : List D)
def RV.d : RV → D
  | .fz d => d
  | .fr xs => .list xs
/-- what a name holds: a value that stays, a list of one's own, a list of the caller's that may be changed -/
inductive Sl where
  | frz (d : D)
  | own (xs : List D)
  | io (xs : List D)
  /-- an object of which nothing is said: this very one -/
  | obj (v : V)
def Sl.d : Sl → D
  | .frz d => d
  | .own xs => .list xs
  | .io xs => .list xs
  | .obj _ => .none
/-- the datum, where it is one -/
def Sl.dat : Sl → Option D
  | .frz d => some d
  | .own xs => some (.list xs)
  | .io xs => some (.list xs)
  | .obj _ => none
def Sl.mu : Sl → Bool
  | .frz _ => false
  | .own _ => true
  | .io _ => true
  | .obj _ => false
abbrev Ev := List (Option Sl)
structure Exn where
  cls : Str
  val : Option Int
inductive Res (α : Type) where
  | ok (a : α) (ρ : Ev)
  | exc (x : Exn) (ρ : Ev)
  | bad
abbrev M (α : Type) := Ev → Res α
def Res.bind {α β : Type} (r : Res α) (f : α → M β) : Res β := match r with
  | .ok a ρ => f a ρ
  | .exc x ρ => .exc x ρ
  | .bad => .bad

/-! ### how data lie in the heap -/
mutual
inductive Rp (K : PySem.W.Frag) (F : Hp) : V → D → Prop
  | non : Rp K F .non .none
  | bl (b : Bool) : Rp K F (.bl b) (.bool b)
  | int (i : Int) : Rp K F (.int i) (.int i)
  | str (x : Str) : Rp K F (.str x) (.str x)
  | lst {a : Addr} {xs : List V} {ds : List D} : Rd F a (.lst xs) → RpAll K F xs ds → Rp K F (.ref a) (.list ds)
  | tup {a : Addr} {xs : List V} {ds : List D} : SqT K F a xs → RpAll K F xs ds → Rp K F (.ref a) (.tuple ds)
inductive RpAll (K : PySem.W.Frag) (F : Hp) : List V → List D → Prop
  | nil : RpAll K F [] []
  | cons {v : V} {vs : List V} {d : D} {ds : List D} : Rp K F v d → RpAll K F vs ds → RpAll K F (v :: vs) (d :: ds)
end
def Sub (F H : Hp) : Prop := ∀ a o, F a = some o → H a = some o
theorem Sub.refl (F : Hp) : Sub F F := fun _ _ h => h
theorem Sub.trans {F G H : Hp} (a : Sub F G) (b : Sub G H) : Sub F H := fun x o h => b x o (a x o h)
theorem Sub.rd {F H : Hp} {a : Addr} {u : HO} (s : Sub F H) (h : Rd F a u) : Rd H a u := by
  rcases h with h | ⟨o, h⟩
  · exact .inl (s _ _ h)
  · exact .inr ⟨o, s _ _ h⟩
theorem Sub.sqT {K : PySem.W.Frag} {F H : Hp} {a : Addr} {xs : List V} (s : Sub F H) (h : SqT K F a xs) : SqT K H a xs := by
  rcases h with h | h
  · exact .inl (s.rd h)
  · exact .inr h
section
variable {K : PySem.W.Frag} {F G H : Hp}
mutual
theorem Rp.mono (s : Sub F G) : ∀ (d : D) (v : V), Rp K F v d → Rp K G v d
  | .none, _, h => by cases h; exact .non
  | .bool _, _, h => by cases h; exact .bl _
  | .int _, _, h => by cases h; exact .int _
  | .str _, _, h => by cases h; exact .str _
  | .list ds, _, h => by
    cases h with
    | lst a b => exact .lst (s.rd a) (RpAll.mono s ds _ b)
  | .tuple ds, _, h => by
    cases h with
    | tup a b => exact .tup (s.sqT a) (RpAll.mono s ds _ b)
  | .dict _, _, h => by cases h
theorem RpAll.mono (s : Sub F G) : ∀ (ds : List D) (vs : List V), RpAll K F vs ds → RpAll K G vs ds
  | [], _, h => by cases h; exact .nil
  | d :: ds, _, h => by
    cases h with
    | cons a b => exact .cons (Rp.mono s d _ a) (RpAll.mono s ds _ b)
end
mutual
theorem Rp.dp : ∀ (d : D) (v : V), Rp K F v d → Dp K F v d
  | .none, _, h => by cases h; exact .non
  | .bool _, _, h => by cases h; exact .bl _
  | .int _, _, h => by cases h; exact .int _
  | .str _, _, h => by cases h; exact .str _
  | .list ds, _, h => by
    cases h with
    | lst a b => exact .lst (.inl a) (RpAll.dp ds _ b)
  | .tuple ds, _, h => by
    cases h with
    | tup a b => exact .tup a (RpAll.dp ds _ b)
  | .dict _, _, h => by cases h
theorem RpAll.dp : ∀ (ds : List D) (vs : List V), RpAll K F vs ds → DpAll K F vs ds
  | [], _, h => by cases h; exact .nil
  | d :: ds, _, h => by
    cases h with
    | cons a b => exact .cons (Rp.dp d _ a) (RpAll.dp ds _ b)
end
theorem RpAll.length : ∀ {ds : List D} {vs : List V}, RpAll K F vs ds → vs.length = ds.length
  | [], _, h => by cases h; rfl
  | d :: ds, _, h => by
    cases h with
    | cons a b => simp only [List.length_cons, RpAll.length b]
theorem RpAll.append : ∀ {ds : List D} {vs : List V} {es : List D} {us : List V}, RpAll K F vs ds → RpAll K F us es → RpAll K F (vs ++ us) (ds ++ es)
  | [], _, _, _, h, g => by cases h; exact g
  | d :: ds, _, _, _, h, g => by
    cases h with
    | cons a b => exact .cons a (RpAll.append b g)
theorem RpAll.get : ∀ {ds : List D} {vs : List V} {i : Nat} {d : D}, RpAll K F vs ds → ds[i]? = some d → ∃ v, vs[i]? = some v ∧ Rp K F v d
  | [], _, _, _, h, e => by simp at e
  | d :: ds, _, 0, _, h, e => by
    cases h with
    | cons a b => simp at e; subst e; exact ⟨_, rfl, a⟩
  | d :: ds, _, i + 1, _, h, e => by
    cases h with
    | cons a b =>
      obtain ⟨v, h1, h2⟩ := RpAll.get (i := i) b (by simpa using e)
      exact ⟨v, by simpa using h1, h2⟩
theorem RpAll.take : ∀ {ds : List D} {vs : List V} (n : Nat), RpAll K F vs ds → RpAll K F (vs.take n) (ds.take n)
  | _, _, 0, _ => by simp; exact .nil
  | [], _, n + 1, h => by cases h; exact .nil
  | d :: ds, _, n + 1, h => by
    cases h with
    | cons a b => exact .cons a (RpAll.take n b)
theorem RpAll.drop : ∀ {ds : List D} {vs : List V} (n : Nat), RpAll K F vs ds → RpAll K F (vs.drop n) (ds.drop n)
  | _, _, 0, h => by simpa using h
  | [], _, n + 1, h => by cases h; exact .nil
  | d :: ds, _, n + 1, h => by
    cases h with
    | cons a b => exact RpAll.drop n b
theorem RpAll.set {d : D} {v : V} (r : Rp K F v d) : ∀ {ds : List D} {vs : List V} (i : Nat), RpAll K F vs ds → RpAll K F (vs.set i v) (ds.set i d)
  | [], _, _, h => by cases h; exact .nil
  | _ :: _, _, 0, h => by
    cases h with
    | cons a b => exact .cons r b
  | _ :: _, _, i + 1, h => by
    cases h with
    | cons a b => exact .cons a (RpAll.set r i b)
theorem RpAll.ints : ∀ ns : List Int, RpAll K F (ns.map V.int) (ns.map PyData.int)
  | [] => .nil
  | n :: r => .cons (.int n) (RpAll.ints r)
end

/-! ### states and steps -/
/-- the tables of code objects that K tells of: where, and how a lambda of that def is named -/
def codeP (o : Obj) : Option (Addr × Str) := match o.data with
  | .fields vs => (match o.cls, (vs[1]? : Option Value), (vs[11]? : Option Value) with
    | .type "code", some (.str n _), some (.ref P) => some (P, n ++ ".<locals>." ++ "<lambda>")
    | _, _, _ => none)
  | _ => none
def tabsK (K : PySem.W.Frag) : List (Addr × Str) := K.filterMap fun q => codeP q.2
def codesK (K : PySem.W.Frag) : List (Addr × Addr) := K.filterMap fun q => (codeP q.2).map fun z => (q.1, z.1)
theorem tabs_codes {K : PySem.W.Frag} {p : Addr × Str} (h : p ∈ tabsK K) : ∃ c, (c, p.1) ∈ codesK K := by
  obtain ⟨q, hq, e⟩ := List.mem_filterMap.mp h
  exact ⟨q.1, List.mem_filterMap.mpr ⟨q, hq, by rw [e]; rfl⟩⟩
theorem tabs_updl {T : List (Addr × Str)} {H : Hp} {a : Addr} {vs us : List V} (t : LamX.Tabs T H) (h : H a = some (.lst vs)) : LamX.Tabs T (upd H a (.lst us)) := fun p hp => by
  obtain ⟨ps, h1, h2, h3⟩ := t p hp
  have n1 : p.1 ≠ a := fun z => by rw [z, h] at h1; cases h1
  refine ⟨ps, by rw [upd_ne n1]; exact h1, h2, fun pos cv hc => ?_⟩
  obtain ⟨c, e1, e2⟩ := h3 pos cv hc
  have n2 : c ≠ a := fun z => by
    rw [z, h] at e2
    unfold LamX.CodeO at e2
    cases e2
  exact ⟨c, e1, by rw [upd_ne n2]; exact e2⟩
/-- all but a list -/
theorem tabs_out {T : List (Addr × Str)} {H H' : Hp} {a : Addr} {vs : List V} (t : LamX.Tabs T H) (h : H a = some (.lst vs)) (k : ∀ b o, b ≠ a → H b = some o → H' b = some o) : LamX.Tabs T H' := fun p hp => by
  obtain ⟨ps, h1, h2, h3⟩ := t p hp
  have n1 : p.1 ≠ a := fun z => by rw [z, h] at h1; cases h1
  refine ⟨ps, k _ _ n1 h1, h2, fun pos cv hc => ?_⟩
  obtain ⟨c, e1, e2⟩ := h3 pos cv hc
  have n2 : c ≠ a := fun z => by
    rw [z, h] at e2
    unfold LamX.CodeO at e2
    cases e2
  exact ⟨c, e1, k _ _ n2 e2⟩
def NT (o : HO) : Prop := ∀ ps, o ≠ .tbl ps
theorem nt_lst {vs : List V} : NT (.lst vs) := fun _ z => by cases z
theorem nt_tup {vs : List V} : NT (.tup vs) := fun _ z => by cases z
/-- nothing is there, or a table -/
def NO (H : Hp) (a : Addr) : Prop := ∀ o, H a = some o → ¬ NT o
theorem NO.none {H : Hp} {a : Addr} (h : H a = none) : NO H a := fun o e => by rw [h] at e; cases e
theorem NO.lst {H : Hp} {a : Addr} {vs : List V} (n : NO H a) (h : H a = some (.lst vs)) : False := n _ h nt_lst
theorem NO.sub {H H' : Hp} {a : Addr} (s : ∀ b o, H b = some o → NT o → H' b = some o) (n : NO H' a) : NO H a := fun o e t => n o (s a o e t) t
def Mu (ρ : Ev) (σ : L2.St) (a : Addr) : Prop := ∃ (i : Nat) (s : Sl), ρ[i]? = some (some s) ∧ s.mu = true ∧ σ[i]? = some (some (V.ref a))
/-- which object that is: a name stands for the global def of that name -/
def objV (K : PySem.W.Frag) (u : V) : V := match u with
  | .str x => .ref (He.ga K x)
  | u => u
def SlOk (K : PySem.W.Frag) (F H : Hp) (v : V) : Sl → Prop
  | .frz d => Rp K F v d
  | .own xs => ∃ a vs, v = .ref a ∧ H a = some (.lst vs) ∧ F a = none ∧ RpAll K F vs xs
  | .io xs => ∃ a vs, v = .ref a ∧ H a = some (.lst vs) ∧ F a = none ∧ RpAll K F vs xs
  | .obj u => v = objV K u
structure St (K : PySem.W.Frag) (F : Hp) (ρ : Ev) (σ : L2.St) (H : Hp) : Prop where
  len : ρ.length = σ.length
  le : Sub F H
  slot : ∀ (i : Nat) (s : Sl), ρ[i]? = some (some s) → ∃ v, σ[i]? = some (some v) ∧ SlOk K F H v s
  inj : ∀ (i j : Nat) (s t : Sl) (a : Addr), ρ[i]? = some (some s) → ρ[j]? = some (some t) → s.mu = true → t.mu = true → σ[i]? = some (some (.ref a)) → σ[j]? = some (some (.ref a)) → i = j
  tb : LamX.Tabs (tabsK K) H
  nt : ∀ b o, F b = some o → NT o
theorem SlOk.mut {K : PySem.W.Frag} {F H : Hp} {v : V} {s : Sl} (h : SlOk K F H v s) (m : s.mu = true) : ∃ a vs xs, v = .ref a ∧ s.d = .list xs ∧ H a = some (.lst vs) ∧ F a = none ∧ RpAll K F vs xs := by
  cases s with
  | frz d => cases m
  | obj u => cases m
  | own xs =>
    obtain ⟨a, vs, h1, h2, h3, h4⟩ := h
    exact ⟨a, vs, xs, h1, rfl, h2, h3, h4⟩
  | io xs =>
    obtain ⟨a, vs, h1, h2, h3, h4⟩ := h
    exact ⟨a, vs, xs, h1, rfl, h2, h3, h4⟩
theorem St.mu_some {K : PySem.W.Frag} {F : Hp} {ρ : Ev} {σ : L2.St} {H : Hp} (S : St K F ρ σ H) {a : Addr} (m : Mu ρ σ a) : (∃ vs, H a = some (.lst vs)) ∧ F a = none := by
  obtain ⟨i, s, h1, h2, h3⟩ := m
  obtain ⟨v, e, ok⟩ := S.slot i s h1
  rw [h3] at e
  cases e
  obtain ⟨b, vs, xs, hb, _, hH, hF, _⟩ := ok.mut h2
  cases hb
  exact ⟨⟨vs, hH⟩, hF⟩
/-- how a slot may change in an expression -/
def SlLe : Option Sl → Option Sl → Prop
  | some (.io _), t => ∃ ys, t = some (.io ys)
  | some (.own _), t => (∃ ys, t = some (.own ys)) ∨ ∃ d, t = some (.frz d)
  | some (.frz d), t => t = some (.frz d)
  | some (.obj u), t => t = some (.obj u)
  | none, t => t = none
theorem SlLe.refl : ∀ s : Option Sl, SlLe s s
  | some (.io _) => ⟨_, rfl⟩
  | some (.own _) => .inl ⟨_, rfl⟩
  | some (.frz _) => rfl
  | some (.obj _) => rfl
  | none => rfl
theorem SlLe.trans {a b c : Option Sl} (h : SlLe a b) (g : SlLe b c) : SlLe a c := by
  cases a with
  | none => cases (show b = none from h); exact g
  | some s =>
    cases s with
    | frz d => cases (show b = some (.frz d) from h); exact g
    | obj d => cases (show b = some (.obj d) from h); exact g
    | io xs =>
      obtain ⟨ys, rfl⟩ := (show ∃ ys, b = some (.io ys) from h)
      exact g
    | own xs =>
      rcases (show (∃ ys, b = some (.own ys)) ∨ ∃ d, b = some (.frz d) from h) with ⟨ys, rfl⟩ | ⟨d, rfl⟩
      · exact g
      · exact .inr ⟨d, g⟩
theorem SlLe.mu {s : Option Sl} {t : Sl} (h : SlLe s (some t)) (m : t.mu = true) : ∃ s', s = some s' ∧ s'.mu = true := by
  cases s with
  | none => cases (show some t = none from h)
  | some s =>
    cases s with
    | frz d =>
      cases (show some t = some (.frz d) from h)
      cases m
    | obj d =>
      cases (show some t = some (.obj d) from h)
      cases m
    | io xs => exact ⟨_, rfl, rfl⟩
    | own xs => exact ⟨_, rfl, rfl⟩
structure StpE (K : PySem.W.Frag) (F : Hp) (ρ : Ev) (σ : L2.St) (H : Hp) (F' : Hp) (ρ' : Ev) (H' : Hp) : Prop where
  st : St K F' ρ' σ H'
  le : Sub F F'
  keep : ∀ b o, H b = some o → NT o → ¬ Mu ρ σ b → H' b = some o
  dom : ∀ b, NO H' b → NO H b
  new : ∀ b o, F' b = some o → F b = some o ∨ NO H b ∨ Mu ρ σ b
  sl : ∀ i : Nat, SlLe (ρ[i]?.join) (ρ'[i]?.join)
section
variable {K : PySem.W.Frag} {F F1 F2 H H1 H2 : Hp} {ρ ρ1 ρ2 : Ev} {σ : L2.St}
theorem join_some {l : Ev} {i : Nat} {s : Sl} : (l[i]?).join = some s ↔ l[i]? = some (some s) := by
  cases h : l[i]? with
  | none => simp
  | some x => cases x <;> simp
theorem StpE.mu (p : StpE K F ρ σ H F1 ρ1 H1) {b : Addr} (m : Mu ρ1 σ b) : Mu ρ σ b := by
  obtain ⟨i, s, h1, h2, h3⟩ := m
  have q := p.sl i
  rw [join_some.mpr h1] at q
  obtain ⟨s', e, m'⟩ := q.mu h2
  exact ⟨i, s', join_some.mp e, m', h3⟩
theorem StpE.refl (S : St K F ρ σ H) : StpE K F ρ σ H F ρ H := ⟨S, Sub.refl _, fun _ _ h _ _ => h, fun _ h => h, fun _ _ h => .inl h, fun _ => SlLe.refl _⟩
theorem StpE.trans (S : St K F ρ σ H) (p : StpE K F ρ σ H F1 ρ1 H1) (q : StpE K F1 ρ1 σ H1 F2 ρ2 H2) : StpE K F ρ σ H F2 ρ2 H2 := by
  refine ⟨q.st, p.le.trans q.le, fun b o h t n => q.keep b o (p.keep b o h t n) t fun m => n (p.mu m), fun b h => p.dom b (q.dom b h), fun b o h => ?_, fun i => (p.sl i).trans (q.sl i)⟩
  rcases q.new b o h with h | h | h
  · exact p.new b o h
  · exact .inr (.inl (p.dom b h))
  · exact .inr (.inr (p.mu h))
end
/-- the value of an expression that began at H and ended at F', H' -/
def RVok (K : PySem.W.Frag) (F' H H' : Hp) (v : V) : RV → Prop
  | .fz d => Rp K F' v d
  | .fr xs => ∃ a vs, v = .ref a ∧ NO H a ∧ H' a = some (.lst vs) ∧ F' a = none ∧ RpAll K F' vs xs
/-- an operand: a value, or a name's slot, read when it is asked -/
inductive Hd where
  | v (r : RV)
  | s (i : Nat)
def HdOk (K : PySem.W.Frag) (F' : Hp) (ρ' : Ev) (σ : L2.St) (H H' : Hp) (v : V) : Hd → Prop
  | .v r => RVok K F' H H' v r
  | .s i => σ[i]? = some (some v) ∧ ∃ s, ρ'[i]? = some (some s)
def rd : Hd → Ev → Option D
  | .v r, _ => some r.d
  | .s i, ρ => (ρ[i]?.join).bind Sl.dat
/-- a datum as it can be read now -/
def Pk (K : PySem.W.Frag) (F H : Hp) (v : V) (d : D) : Prop := Rp K F v d ∨ ∃ a vs xs, v = .ref a ∧ d = .list xs ∧ H a = some (.lst vs) ∧ RpAll K F vs xs
section
variable {K : PySem.W.Frag} {F F1 F2 F' H H0 H1 H2 H' : Hp} {ρ ρ1 ρ2 ρ' : Ev} {σ : L2.St} {v : V}
theorem RVok.carry (S : St K F ρ σ H0) {r : RV} (p : StpE K F ρ σ H0 F1 ρ1 H1) (q : StpE K F1 ρ1 σ H1 F2 ρ2 H2) (h : RVok K F1 H0 H1 v r) : RVok K F2 H0 H2 v r := by
  cases r with
  | fz d => exact Rp.mono q.le _ _ h
  | fr xs =>
    obtain ⟨a, vs, e, h0, h1, hF, hr⟩ := h
    have nm : ¬ Mu ρ1 σ a := fun m => by
      obtain ⟨⟨us, e'⟩, _⟩ := S.mu_some (p.mu m)
      exact h0.lst e'
    refine ⟨a, vs, e, h0, q.keep a _ h1 nt_lst nm, ?_, RpAll.mono q.le _ _ hr⟩
    cases e2 : F2 a with
    | none => rfl
    | some o =>
      rcases q.new a o e2 with z | z | z
      · rw [hF] at z; cases z
      · exact (z.lst h1).elim
      · exact absurd z nm
theorem HdOk.carry (S : St K F ρ σ H0) {h : Hd} (p : StpE K F ρ σ H0 F1 ρ1 H1) (q : StpE K F1 ρ1 σ H1 F2 ρ2 H2) (hh : HdOk K F1 ρ1 σ H0 H1 v h) : HdOk K F2 ρ2 σ H0 H2 v h := by
  cases h with
  | v r => exact RVok.carry S p q hh
  | s i =>
    obtain ⟨e, s, hs⟩ := hh
    refine ⟨e, ?_⟩
    have z := q.sl i
    rw [join_some.mpr hs] at z
    cases s with
    | frz d => exact ⟨_, join_some.mp z⟩
    | obj d => exact ⟨_, join_some.mp z⟩
    | own xs =>
      rcases z with ⟨ys, z⟩ | ⟨d, z⟩
      · exact ⟨_, join_some.mp z⟩
      · exact ⟨_, join_some.mp z⟩
    | io xs =>
      obtain ⟨ys, z⟩ := z
      exact ⟨_, join_some.mp z⟩
theorem RVok.start (h : RVok K F' H1 H' v r) (d : ∀ b, NO H1 b → NO H b) : RVok K F' H H' v r := by
  cases r with
  | fz d => exact h
  | fr xs =>
    obtain ⟨a, vs, e, h0, h1, hF, hr⟩ := h
    exact ⟨a, vs, e, d _ h0, h1, hF, hr⟩
theorem HdOk.start {h : Hd} (hh : HdOk K F' ρ' σ H1 H' v h) (d : ∀ b, NO H1 b → NO H b) : HdOk K F' ρ' σ H H' v h := by
  cases h with
  | v r => exact RVok.start hh d
  | s i => exact hh
theorem HdOk.pk (S : St K F' ρ' σ H') {h : Hd} {d : D} (hh : HdOk K F' ρ' σ H H' v h) (e : rd h ρ' = some d) : Pk K F' H' v d := by
  cases h with
  | v r =>
    cases e
    cases r with
    | fz d => exact .inl hh
    | fr xs =>
      obtain ⟨a, vs, e, h0, h1, hF, hr⟩ := hh
      exact .inr ⟨a, vs, xs, e, rfl, h1, hr⟩
  | s i =>
    obtain ⟨ev, s, hs⟩ := hh
    obtain ⟨v', ev', ok⟩ := S.slot i s hs
    rw [ev] at ev'
    cases ev'
    have e' : (ρ'[i]?.join).bind Sl.dat = some d := e
    rw [join_some.mpr hs] at e'
    cases s with
    | frz d => cases e'; exact .inl ok
    | obj u => cases e'
    | own xs =>
      cases e'
      obtain ⟨a, vs, h1, h2, h3, h4⟩ := ok
      exact .inr ⟨a, vs, xs, h1, rfl, h2, h4⟩
    | io xs =>
      cases e'
      obtain ⟨a, vs, h1, h2, h3, h4⟩ := ok
      exact .inr ⟨a, vs, xs, h1, rfl, h2, h4⟩
theorem Pk.rpH {d : D} (h : Pk K F H v d) (s : Sub F H) : Rp K H v d := by
  rcases h with h | ⟨a, vs, xs, rfl, rfl, hH, hr⟩
  · exact Rp.mono s _ _ h
  · exact .lst (.inl hH) (RpAll.mono s _ _ hr)
theorem Pk.lst {xs : List D} (h : Pk K F H v (.list xs)) (s : Sub F H) : ∃ a vs, v = .ref a ∧ Rd H a (.lst vs) ∧ RpAll K F vs xs := by
  rcases h with h | ⟨a, vs, xs, rfl, e, hH, hr⟩
  · cases h with
    | lst q r => exact ⟨_, _, rfl, s.rd q, r⟩
  · cases e
    exact ⟨a, vs, rfl, .inl hH, hr⟩
theorem Pk.tup {xs : List D} (h : Pk K F H v (.tuple xs)) : ∃ a vs, v = .ref a ∧ SqT K F a vs ∧ RpAll K F vs xs := by
  rcases h with h | ⟨a, vs, xs, rfl, e, hH, hr⟩
  · cases h with
    | tup q r => exact ⟨_, _, rfl, q, r⟩
  · cases e
theorem Pk.int {i : Int} (h : Pk K F H v (.int i)) : v = .int i := by
  rcases h with h | ⟨a, vs, xs, rfl, e, hH, hr⟩
  · cases h; rfl
  · cases e
theorem Pk.bl {i : Bool} (h : Pk K F H v (.bool i)) : v = .bl i := by
  rcases h with h | ⟨a, vs, xs, rfl, e, hH, hr⟩
  · cases h; rfl
  · cases e
theorem Pk.str {i : Str} (h : Pk K F H v (.str i)) : v = .str i := by
  rcases h with h | ⟨a, vs, xs, rfl, e, hH, hr⟩
  · cases h; rfl
  · cases e
theorem Pk.non (h : Pk K F H v .none) : v = .non := by
  rcases h with h | ⟨a, vs, xs, rfl, e, hH, hr⟩
  · cases h; rfl
  · cases e
end

/-! ### what an operation on values makes -/
structure Mk (K : PySem.W.Frag) (F H : Hp) (v : V) (F' H' : Hp) (r : RV) : Prop where
  same : Sub H H'
  le : Sub F F'
  fle : Sub F' H'
  new : ∀ b o, F' b = some o → F b = some o ∨ (NO H b ∧ NT o)
  rv : RVok K F' H H' v r
section
variable {K : PySem.W.Frag} {F H F' H' : Hp} {ρ : Ev} {σ : L2.St} {v : V} {r : RV}
theorem Mk.val {d : D} (s : Sub F H) (h : Rp K F v d) : Mk K F H v F H (.fz d) := ⟨Sub.refl _, Sub.refl _, s, fun _ _ h => .inl h, h⟩
theorem sub_upd {G : Hp} {a : Addr} {o : HO} (h : G a = none) : Sub G (upd G a o) := fun b u e => by
  rw [upd_ne (ne_of_none e h)]
  exact e
theorem Mk.lst {a : Addr} {vs : List V} {xs : List D} (s : Sub F H) (hn : H a = none) (h : RpAll K F vs xs) : Mk K F H (.ref a) F (upd H a (.lst vs)) (.fr xs) := by
  have hF : F a = none := by
    cases e : F a with
    | none => rfl
    | some o => rw [s _ _ e] at hn; cases hn
  exact ⟨sub_upd hn, Sub.refl _, s.trans (sub_upd hn), fun _ _ h => .inl h, a, vs, rfl, .none hn, upd_same, hF, h⟩
theorem sub_upd2 {F H : Hp} {a : Addr} {o : HO} (s : Sub F H) : Sub (upd F a o) (upd H a o) := fun b u e => by
  by_cases h : b = a
  · subst h; rw [upd_same] at e ⊢; exact e
  · rw [upd_ne h] at e ⊢; exact s _ _ e
theorem none_sub {F H : Hp} {a : Addr} (s : Sub F H) (h : H a = none) : F a = none := by
  cases e : F a with
  | none => rfl
  | some o => rw [s _ _ e] at h; cases h
theorem Mk.tup {a : Addr} {vs : List V} {xs : List D} (s : Sub F H) (hn : H a = none) (h : RpAll K F vs xs) : Mk K F H (.ref a) (upd F a (.tup vs)) (upd H a (.tup vs)) (.fz (.tuple xs)) := by
  have hF : F a = none := none_sub s hn
  refine ⟨sub_upd hn, sub_upd hF, sub_upd2 s, fun b o e => ?_, .tup (.inl (.inl upd_same)) (RpAll.mono (sub_upd hF) _ _ h)⟩
  by_cases hb : b = a
  · subst hb; rw [upd_same] at e; cases e; exact .inr ⟨.none hn, nt_tup⟩
  · rw [upd_ne hb] at e; exact .inl e
theorem St.made (S : St K F ρ σ H) (m : Mk K F H v F' H' r) : StpE K F ρ σ H F' ρ H' := by
  have keepM : ∀ {a : Addr} {vs : List V}, H a = some (.lst vs) → F a = none → F' a = none := fun {a vs} h1 h2 => by
    cases e : F' a with
    | none => rfl
    | some o =>
      rcases m.new a o e with z | z
      · rw [h2] at z; cases z
      · exact (z.1.lst h1).elim
  refine ⟨⟨S.len, m.fle, fun i s h => ?_, S.inj, S.tb.ext m.same, fun b o h => (m.new b o h).elim (S.nt b o) fun z => z.2⟩, m.le, fun b o h _ _ => m.same b o h, fun b h => NO.sub (fun b o e _ => m.same b o e) h, fun b o h => (m.new b o h).imp id fun z => .inl z.1, fun _ => SlLe.refl _⟩
  obtain ⟨v', e, ok⟩ := S.slot i s h
  refine ⟨v', e, ?_⟩
  cases s with
  | frz d => exact Rp.mono m.le _ _ ok
  | obj d => exact ok
  | own xs =>
    obtain ⟨a, vs, h1, h2, h3, h4⟩ := ok
    exact ⟨a, vs, h1, m.same _ _ h2, keepM h2 h3, RpAll.mono m.le _ _ h4⟩
  | io xs =>
    obtain ⟨a, vs, h1, h2, h3, h4⟩ := ok
    exact ⟨a, vs, h1, m.same _ _ h2, keepM h2 h3, RpAll.mono m.le _ _ h4⟩
end
end Pu
set_option Elab.async false
set_option linter.all false
set_option maxRecDepth 100000
/-! Pu2: the pure layer: readings of expressions. -/
namespace Pu
open PySem L2
/-- what is wished: the written part, how an error lies, what is wanted of it -/
structure Wi where
  K : PySem.W.Frag
  XR : Exn → Value → Option Addr → Hp → Prop
  W : L2.WX
def Wp {α : Type} (w : Wi) (F : Hp) (ρ : Ev) (σ : L2.St) (H : Hp) (r : Res α) (Q : α → Ev → Hp → Hp → Prop) : Prop := match r with
  | .ok a ρ' => ∀ F' H', StpE w.K F ρ σ H F' ρ' H' → Q a ρ' F' H'
  | .exc x ρ' => ∀ F' H' cls d, StpE w.K F ρ σ H F' ρ' H' → w.XR x cls d H' → w.W cls d σ H'
  | .bad => False
section
variable {w : Wi} {F : Hp} {ρ : Ev} {σ : L2.St} {H : Hp} {α β : Type}
theorem Wp.bind {r : Res α} {f : α → M β} {Q : β → Ev → Hp → Hp → Prop} (S : St w.K F ρ σ H) (h : Wp w F ρ σ H (r.bind f) Q) :
    Wp w F ρ σ H r fun a ρ1 F1 H1 => StpE w.K F ρ σ H F1 ρ1 H1 ∧ Wp w F1 ρ1 σ H1 (f a ρ1) Q := by
  cases r with
  | bad => exact h
  | exc x ρ1 => exact h
  | ok a ρ1 =>
    intro F1 H1 p
    refine ⟨p, ?_⟩
    have h : Wp w F ρ σ H (f a ρ1) Q := h
    cases e : f a ρ1 with
    | bad => rw [e] at h; exact h
    | exc x ρ2 =>
      rw [e] at h
      exact fun F2 H2 cls d q hx => h F2 H2 cls d (p.trans S q) hx
    | ok b ρ2 =>
      rw [e] at h
      exact fun F2 H2 q => h F2 H2 (p.trans S q)
theorem Wp.mono {r : Res α} {Q Q' : α → Ev → Hp → Hp → Prop} (h : Wp w F ρ σ H r Q) (i : ∀ a ρ1 F1 H1, Q a ρ1 F1 H1 → Q' a ρ1 F1 H1) : Wp w F ρ σ H r Q' := by
  cases r with
  | bad => exact h
  | exc x ρ1 => exact h
  | ok a ρ1 => exact fun F1 H1 p => i _ _ _ _ (h F1 H1 p)
theorem Wp.ok {a : α} {Q : α → Ev → Hp → Hp → Prop} (S : St w.K F ρ σ H) (h : Wp w F ρ σ H (.ok a ρ) Q) : Q a ρ F H := h F H (.refl S)
end
def tK (w : Wi) (m : M Hd) : TE := fun σ H Q => ∃ F ρ, St w.K F ρ σ H ∧ Wp w F ρ σ H (m ρ) fun h ρ' F' H' => ∀ v, HdOk w.K F' ρ' σ H H' v h → Q v H'
def tT (w : Wi) (m : M Hd) : TT := fun σ H Q => ∃ F ρ, St w.K F ρ σ H ∧ Wp w F ρ σ H (m ρ) fun h ρ' F' H' => ∃ b, rd h ρ' = some (.bool b) ∧ Q b H'
/-- a new list is none of the other new lists -/
def Apt (v : V) (h : Hd) (vs : List V) (hs : List Hd) : Prop := ∀ xs, h = .v (.fr xs) → ∀ u ys, (u, Hd.v (.fr ys)) ∈ vs.zip hs → u ≠ v
def HdsOk (K : PySem.W.Frag) (F' : Hp) (ρ' : Ev) (σ : L2.St) (H H' : Hp) : List V → List Hd → Prop
  | [], [] => True
  | v :: vs, h :: hs => HdOk K F' ρ' σ H H' v h ∧ HdsOk K F' ρ' σ H H' vs hs ∧ Apt v h vs hs
  | _, _ => False
theorem HdsOk.mem {K : PySem.W.Frag} {F' : Hp} {ρ' : Ev} {σ : L2.St} {H H' : Hp} {u : V} {h : Hd} : ∀ {vs : List V} {hs : List Hd}, HdsOk K F' ρ' σ H H' vs hs → (u, h) ∈ vs.zip hs → HdOk K F' ρ' σ H H' u h
  | [], [], _, m => by cases m
  | v :: vs, k :: hs, ⟨a, b, _⟩, m => by
    rcases List.mem_cons.mp m with e | m
    · cases e; exact a
    · exact HdsOk.mem b m
  | [], _ :: _, x, _ => x.elim
  | _ :: _, [], x, _ => x.elim
def tA (w : Wi) (m : M (List Hd)) : TA := fun σ H Q => ∃ F ρ, St w.K F ρ σ H ∧ Wp w F ρ σ H (m ρ) fun hs ρ' F' H' => ∀ vs, HdsOk w.K F' ρ' σ H H' vs hs → Q vs H'

theorem PEimp {X : Cx} {e : Expr} {t t' : TE} (h : PE X e t) (i : ∀ σ H Q, t' σ H Q → t σ H Q) : PE X e t' := ⟨fun pins s σ H Q I q => h.run pins s σ H Q I (i σ H Q q)⟩
theorem PTimp {X : Cx} {e : Expr} {t t' : TT} (h : PT X e t) (i : ∀ σ H Q, t' σ H Q → t σ H Q) : PT X e t' := ⟨fun pins s σ H Q I q => h.run pins s σ H Q I (i σ H Q q)⟩
theorem PWimp {X : Cx} {e : Expr} {t t' : TT} (h : PW X e t) (i : ∀ σ H Q, t' σ H Q → t σ H Q) : PW X e t' := ⟨fun wh pins s σ H Q I q => h.run wh pins s σ H Q I (i σ H Q q)⟩
theorem PAimp {X : Cx} {e : List Expr} {t t' : TA} (h : PA X e t) (i : ∀ σ H Q, t' σ H Q → t σ H Q) : PA X e t' := ⟨fun pos pins s σ H Q I q => h.run pos pins s σ H Q I (i σ H Q q)⟩
theorem PSimp {X : Cx} {e : Stmt} {t t' : TS} (h : PS X e t) (i : ∀ σ H Q, t' σ H Q → t σ H Q) : PS X e t' := ⟨fun pins s σ H Q I q => h.run pins s σ H Q I (i _ _ _ q)⟩
theorem PSsimp {X : Cx} {e : List Stmt} {t t' : TS} (h : PSs X e t) (i : ∀ σ H Q, t' σ H Q → t σ H Q) : PSs X e t' := ⟨fun pins s σ H Q I q => h.run pins s σ H Q I (i _ _ _ q)⟩

/-! ### the words -/
def mSlot (i : Nat) : M Hd := fun ρ => match ρ[i]?.join with
  | some _ => .ok (.s i) ρ
  | none => .bad
def mC (d : D) : M Hd := fun ρ => .ok (.v (.fz d)) ρ
/-- the value of an operand, from now on shared -/
def esc (h : Hd) : M Hd := fun ρ => match h with
  | .v r => .ok (.v (.fz r.d)) ρ
  | .s i => match ρ[i]?.join with
    | some (.frz d) => .ok (.v (.fz d)) ρ
    | some (.own xs) => .ok (.v (.fz (.list xs))) (ρ.set i (some (.frz (.list xs))))
    | some (.io _) => .bad
    | some (.obj _) => .bad
    | none => .bad
def mEsc (m : M Hd) : M Hd := fun ρ => (m ρ).bind esc
/-- an operand's value as it is given away: a new list may be kept by its taker -/
def esr (h : Hd) : M Hd := fun ρ => match h with
  | .v r => .ok (.v r) ρ
  | .s i => esc (.s i) ρ
def mEsr (m : M Hd) : M Hd := fun ρ => (m ρ).bind esr
def prim2 (f : D → D → Option RV) (h1 h2 : Hd) : M Hd := fun ρ => match rd h1 ρ, rd h2 ρ with
  | some d, some e => (match f d e with
    | some r => .ok (.v r) ρ
    | none => .bad)
  | _, _ => .bad
def mBin (f : D → D → Option RV) (a b : M Hd) : M Hd := fun ρ => (a ρ).bind fun h1 ρ1 => (b ρ1).bind fun h2 ρ2 => prim2 f h1 h2 ρ2
def prim1 (f : D → Option RV) (h : Hd) : M Hd := fun ρ => match rd h ρ with
  | some d => (match f d with
    | some r => .ok (.v r) ρ
    | none => .bad)
  | none => .bad
def mUn (f : D → Option RV) (a : M Hd) : M Hd := fun ρ => (a ρ).bind (prim1 f)
def mArgs : List (M Hd) → M (List Hd)
  | [] => fun ρ => .ok [] ρ
  | m :: ms => fun ρ => (m ρ).bind fun h ρ1 => (mArgs ms ρ1).bind fun hs ρ2 => .ok (h :: hs) ρ2
def rds : List Hd → Ev → Option (List D)
  | [], _ => some []
  | h :: hs, ρ => match rd h ρ, rds hs ρ with
    | some d, some ds => some (d :: ds)
    | _, _ => none
def primN (f : List D → Option RV) (hs : List Hd) : M Hd := fun ρ => match rds hs ρ with
  | some ds => (match f ds with
    | some r => .ok (.v r) ρ
    | none => .bad)
  | none => .bad
def mPrim (f : List D → Option RV) (ms : List (M Hd)) : M Hd := fun ρ => (mArgs ms ρ).bind (primN f)
def asB (h : Hd) (ρ : Ev) : Option Bool := match rd h ρ with
  | some (.bool b) => some b
  | _ => none
def mIf {α : Type} (c : M Hd) (a b : M α) : M α := fun ρ => (c ρ).bind fun h ρ1 => match asB h ρ1 with
  | some true => a ρ1
  | some false => b ρ1
  | none => .bad
def mAnd (a b : M Hd) : M Hd := mIf a b (mC (.bool false))
def mOr (a b : M Hd) : M Hd := mIf a (mC (.bool true)) b
def mNot (a : M Hd) : M Hd := mIf a (mC (.bool false)) (mC (.bool true))

theorem asB_some {h : Hd} {ρ : Ev} {b : Bool} (e : asB h ρ = some b) : rd h ρ = some (.bool b) := by
  unfold asB at e
  split at e
  · cases e; assumption
  · cases e
section
variable {w : Wi} {X : Cx}
theorem se_var {i : Nat} {x : Str} {pos : Pos} (hN : X.N[i]? = some x) (hv : Vis X.env.scope x) (hd : (x == ("__debug__" : Str)) = false) (hcd : (x == ("__classdict__" : Str)) = false) : PE X (.Name x pos) (tK w (mSlot i)) := by
  refine PEimp (pe_var hN hv hd hcd) fun σ H Q h => ?_
  obtain ⟨F, ρ, S, h⟩ := h
  unfold mSlot at h
  split at h
  · rename_i s e
    have e := join_some.mp e
    obtain ⟨v, ev, _⟩ := S.slot i s e
    exact ⟨v, ev, h.ok S v ⟨ev, s, e⟩⟩
  · exact h.elim
theorem tC_of {v : V} {d : D} {σ : L2.St} {H : Hp} {Q : VK} (r : ∀ F, Rp w.K F v d) (h : tK w (mC d) σ H Q) : Q v H := by
  obtain ⟨F, ρ, S, h⟩ := h
  exact h.ok S v (r F)
theorem se_int {i : Int} {j pos} : PE X (.Constant (.int i) j pos) (tK w (mC (.int i))) := PEimp pe_int fun _ _ _ h => tC_of (fun _ => .int i) h
theorem se_bl {b : Bool} {j pos} : PE X (.Constant (.bool b) j pos) (tK w (mC (.bool b))) := PEimp pe_bl fun _ _ _ h => tC_of (fun _ => .bl b) h
theorem se_non {j pos} : PE X (.Constant .none j pos) (tK w (mC .none)) := PEimp pe_non fun _ _ _ h => tC_of (fun _ => .non) h
theorem se_str {x : Str} {j pos} : PE X (.Constant (.str x) j pos) (tK w (mC (.str x))) := PEimp pe_str fun _ _ _ h => tC_of (fun _ => .str x) h
theorem se_glob {x : Str} {v : V} {d : D} {u : Value} {pos : Pos} (hg : Gl X x) (hm : X.mg x = some u) (r : RelV v u) (hd : (x == ("__debug__" : Str)) = false) (q : ∀ F, Rp w.K F v d) : PE X (.Name x pos) (tK w (mC d)) :=
  PEimp (pe_glob hg hm r hd) fun _ _ _ h => tC_of q h

/-! ### one behind another -/
theorem tK_in {ma : M Hd} {f : Hd → M Hd} {σ : L2.St} {H : Hp} {Q : VK} (h : tK w (fun ρ => (ma ρ).bind f) σ H Q) :
    tK w ma σ H fun x H1 => ∃ F ρ F1 ρ1 h1, St w.K F ρ σ H ∧ StpE w.K F ρ σ H F1 ρ1 H1 ∧ HdOk w.K F1 ρ1 σ H H1 x h1 ∧ Wp w F1 ρ1 σ H1 (f h1 ρ1) fun h ρ' F' H' => ∀ v, HdOk w.K F' ρ' σ H H' v h → Q v H' := by
  obtain ⟨F, ρ, S, h⟩ := h
  refine ⟨F, ρ, S, (h.bind S).mono fun h1 ρ1 F1 H1 ⟨p, q⟩ v hv => ⟨F, ρ, F1, ρ1, h1, S, p, hv, q⟩⟩
/-- from the end's readiness to a value's place -/
theorem Wp.prim {F F1 : Hp} {ρ ρ1 : Ev} {σ : L2.St} {H H1 : Hp} {Q : VK} {rv : RV} (S : St w.K F ρ σ H) (p : StpE w.K F ρ σ H F1 ρ1 H1)
    (h : Wp w F1 ρ1 σ H1 (.ok (.v rv) ρ1) fun h ρ' F' H' => ∀ v, HdOk w.K F' ρ' σ H H' v h → Q v H') {v : V} {F' H' : Hp} (m : Mk w.K F1 H1 v F' H' rv) : Q v H' :=
  h F' H' (p.st.made m) v (RVok.start m.rv p.dom)
def Op2 (K : PySem.W.Frag) (r : R2) (f : D → D → Option RV) : Prop := ∀ (F H : Hp) (x y : V) (d e : D) (rv : RV) (Q : VK), Sub F H → Pk K F H x d → Pk K F H y e → f d e = some rv →
  (∀ v F' H', Mk K F H v F' H' rv → Q v H') → r x y H Q
theorem op2_in {f : D → D → Option RV} {r : R2} {ma mb : M Hd} {σ : L2.St} {H : Hp} {Q : VK} (h2 : Op2 w.K r f) (h : tK w (mBin f ma mb) σ H Q) : tOp r (tK w ma) (tK w mb) σ H Q := by
  obtain ⟨F, ρ, S, h⟩ := h
  refine ⟨F, ρ, S, (h.bind S).mono fun h1 ρ1 F1 H1 ⟨p, q⟩ x hx => ?_⟩
  refine ⟨F1, ρ1, p.st, (q.bind p.st).mono fun k ρ2 F2 H2 ⟨p2, q2⟩ y hy => ?_⟩
  have pp := p.trans S p2
  have hx2 := HdOk.carry S p p2 hx
  unfold prim2 at q2
  split at q2
  · rename_i d e ed ee
    split at q2
    · rename_i rv ef
      exact h2 F2 H2 x y d e rv Q p2.st.le (hx2.pk p2.st ed) (hy.pk p2.st ee) ef fun v F' H' m => q2.prim S pp m
    · exact q2.elim
  · exact q2.elim
theorem se_bin {a b : Expr} {op : Operator} {pos : Pos} {f : D → D → Option RV} {r : R2} {ma mb : M Hd} (ho : OpR X (binaryOp op) r) (h2 : Op2 w.K r f) (ha : PE X a (tK w ma)) (hb : PE X b (tK w mb)) : PE X (.BinOp a op b pos) (tK w (mBin f ma mb)) :=
  PEimp (pe_op ho ha hb) fun _ _ _ h => op2_in h2 h
theorem se_cmp {a b : Expr} {op : CmpOp} {pos : Pos} {f : D → D → Option RV} {r : R2} {ma mb : M Hd} (ho : OpR X (compareOp op) r) (h2 : Op2 w.K r f) (ha : PE X a (tK w ma)) (hb : PE X b (tK w mb)) (hm : behindInMarks op b = false) : PE X (.Compare a [op] [b] pos) (tK w (mBin f ma mb)) :=
  PEimp (pe_cmpR ho ha hb hm) fun _ _ _ h => op2_in h2 h
theorem rd_v {K : PySem.W.Frag} {F' H H' : Hp} {ρ' : Ev} {σ : L2.St} {v : V} {r : RV} (h : HdOk K F' ρ' σ H H' v (.v r)) : HdOk K F' ρ' σ H H' v (.v r) := h
/-- a bool's reading as a test's -/
theorem tT_of {m : M Hd} {σ : L2.St} {H : Hp} {Q : Bool → Hp → Prop} (h : tT w m σ H Q) : tK w m σ H fun x H1 => ∃ k, x = .bl k ∧ Q k H1 := by
  obtain ⟨F, ρ, S, h⟩ := h
  refine ⟨F, ρ, S, ?_⟩
  cases e : m ρ with
  | bad => rw [e] at h; exact h
  | exc x ρ1 => rw [e] at h; exact h
  | ok k ρ1 =>
    rw [e] at h
    intro F1 H1 p v hv
    obtain ⟨b, eb, q⟩ := h F1 H1 p
    exact ⟨b, (hv.pk p.st eb).bl, q⟩
theorem st_cmp {a b : Expr} {op : CmpOp} {pos : Pos} {f : D → D → Option RV} {r : R2} {ma mb : M Hd} (ho : OpR X (compareOp op) r) (h2 : Op2 w.K r f) (ha : PE X a (tK w ma)) (hb : PE X b (tK w mb)) (hm : behindInMarks op b = false) : PT X (.Compare a [op] [b] pos) (tT w (mBin f ma mb)) :=
  PTimp (pt_cmpR ho ha hb hm) fun _ _ _ h => op2_in h2 (tT_of h)
theorem st_val {e : Expr} {m : M Hd} (h : PE X e (tK w m)) (he : ∀ whole, isTrue e X.env whole = (do let v ← whole; standAt e.pos; holding [v] (truthy v))) : PT X e (tT w m) :=
  PTimp (pt_val h he) fun _ _ _ h => tT_of h

/-! ### if, and, or, not -/
theorem Wp.if {α : Type} {F : Hp} {ρ : Ev} {σ : L2.St} {H : Hp} {h : Hd} {a b : M α} {Q : α → Ev → Hp → Hp → Prop}
    (q : Wp w F ρ σ H (match asB h ρ with | some true => a ρ | some false => b ρ | none => .bad) Q) :
    ∃ k, rd h ρ = some (.bool k) ∧ Wp w F ρ σ H (if k = true then a ρ else b ρ) Q := by
  split at q
  · rename_i e; exact ⟨true, asB_some e, q⟩
  · rename_i e; exact ⟨false, asB_some e, q⟩
  · exact q.elim
theorem if_in {c ma mb : M Hd} {σ : L2.St} {H : Hp} {Q : VK} (h : tK w (mIf c ma mb) σ H Q) : tIf (tT w c) (tK w ma) (tK w mb) σ H Q := by
  obtain ⟨F, ρ, S, h⟩ := h
  refine ⟨F, ρ, S, (h.bind S).mono fun h1 ρ1 F1 H1 ⟨p, q⟩ => ?_⟩
  obtain ⟨k, e, q⟩ := Wp.if q
  refine ⟨k, e, ?_⟩
  cases k with
  | true => exact ⟨F1, ρ1, p.st, Wp.mono q fun k ρ2 F2 H2 z v hv => z v (hv.start p.dom)⟩
  | false => exact ⟨F1, ρ1, p.st, Wp.mono q fun k ρ2 F2 H2 z v hv => z v (hv.start p.dom)⟩
theorem se_if {c a b : Expr} {pos : Pos} {mc ma mb : M Hd} (hc : PT X c (tT w mc)) (ha : PE X a (tK w ma)) (hb : PE X b (tK w mb)) : PE X (.IfExp c a b pos) (tK w (mIf mc ma mb)) :=
  PEimp (pe_ifExp hc ha hb) fun _ _ _ h => if_in h
theorem ifT_in {c ma mb : M Hd} {σ : L2.St} {H : Hp} {Q : Bool → Hp → Prop} (h : tT w (mIf c ma mb) σ H Q) : tT w c σ H fun k H1 => if k = true then tT w ma σ H1 Q else tT w mb σ H1 Q := by
  obtain ⟨F, ρ, S, h⟩ := h
  refine ⟨F, ρ, S, (h.bind S).mono fun h1 ρ1 F1 H1 ⟨p, q⟩ => ?_⟩
  obtain ⟨k, e, q⟩ := Wp.if q
  refine ⟨k, e, ?_⟩
  cases k with
  | true => exact ⟨F1, ρ1, p.st, q⟩
  | false => exact ⟨F1, ρ1, p.st, q⟩
theorem tT_C {b : Bool} {σ : L2.St} {H : Hp} {Q : Bool → Hp → Prop} (h : tT w (mC (.bool b)) σ H Q) : Q b H := by
  obtain ⟨F, ρ, S, h⟩ := h
  obtain ⟨k, e, q⟩ := h.ok S
  cases e
  exact q
theorem TT_mono {m : M Hd} {σ : L2.St} {H : Hp} {Q Q' : Bool → Hp → Prop} (h : tT w m σ H Q) (i : ∀ b H, Q b H → Q' b H) : tT w m σ H Q' := by
  obtain ⟨F, ρ, S, h⟩ := h
  exact ⟨F, ρ, S, Wp.mono h fun _ _ _ _ ⟨b, e, q⟩ => ⟨b, e, i _ _ q⟩⟩
theorem TK_mono {m : M Hd} {σ : L2.St} {H : Hp} {Q Q' : VK} (h : tK w m σ H Q) (i : ∀ b H, Q b H → Q' b H) : tK w m σ H Q' := by
  obtain ⟨F, ρ, S, h⟩ := h
  exact ⟨F, ρ, S, Wp.mono h fun _ _ _ _ q v hv => i _ _ (q v hv)⟩
theorem st_not {a : Expr} {pos : Pos} {ma : M Hd} (ha : PT X a (tT w ma)) : PT X (.UnaryOp .Not a pos) (tT w (mNot ma)) := by
  refine PTimp (pt_not ha) fun σ H Q h => TT_mono (ifT_in h) fun b H1 q => ?_
  cases b with
  | true => exact tT_C q
  | false => exact tT_C q
theorem sw_and {a b : Expr} {rest : List Expr} {pos : Pos} {ma mb : M Hd} (ha : PT X a (tT w ma)) (hb : PW X (.BoolOp .And (b :: rest) pos) (tT w mb)) : PW X (.BoolOp .And (a :: b :: rest) pos) (tT w (mAnd ma mb)) := by
  refine PWimp (pw_and ha hb) fun σ H Q h => TT_mono (ifT_in h) fun b H1 q => ?_
  cases b with
  | true => exact q
  | false => exact tT_C q
theorem sw_or {a b : Expr} {rest : List Expr} {pos : Pos} {ma mb : M Hd} (ha : PT X a (tT w ma)) (hb : PW X (.BoolOp .Or (b :: rest) pos) (tT w mb)) : PW X (.BoolOp .Or (a :: b :: rest) pos) (tT w (mOr ma mb)) := by
  refine PWimp (pw_or ha hb) fun σ H Q h => TT_mono (ifT_in h) fun b H1 q => ?_
  cases b with
  | true => exact tT_C q
  | false => exact q
/-- a test's answer, from the operand's value -/
theorem ifV_in {c ma mb : M Hd} {σ : L2.St} {H : Hp} {Q : VK} (h : tK w (mIf c ma mb) σ H Q) : tK w c σ H fun x H1 => ∃ k, x = .bl k ∧ if k = true then tK w ma σ H1 Q else tK w mb σ H1 Q := by
  obtain ⟨F, ρ, S, h⟩ := h
  refine ⟨F, ρ, S, (h.bind S).mono fun h1 ρ1 F1 H1 ⟨p, q⟩ v hv => ?_⟩
  obtain ⟨k, e, q⟩ := Wp.if q
  refine ⟨k, (hv.pk p.st e).bl, ?_⟩
  cases k with
  | true => exact ⟨F1, ρ1, p.st, Wp.mono q fun k ρ2 F2 H2 z v hv => z v (hv.start p.dom)⟩
  | false => exact ⟨F1, ρ1, p.st, Wp.mono q fun k ρ2 F2 H2 z v hv => z v (hv.start p.dom)⟩
theorem se_and {a b : Expr} {rest : List Expr} {pos : Pos} {ma mb : M Hd} (ha : PE X a (tK w ma)) (hb : PE X (.BoolOp .And (b :: rest) pos) (tK w mb)) : PE X (.BoolOp .And (a :: b :: rest) pos) (tK w (mAnd ma mb)) := by
  refine PEimp (pe_and ha hb) fun σ H Q h => TK_mono (ifV_in h) fun x H1 ⟨k, e, q⟩ => ⟨k, e, ?_⟩
  cases k with
  | true => exact q
  | false => exact tC_of (fun _ => .bl false) q
theorem se_or {a b : Expr} {rest : List Expr} {pos : Pos} {ma mb : M Hd} (ha : PE X a (tK w ma)) (hb : PE X (.BoolOp .Or (b :: rest) pos) (tK w mb)) : PE X (.BoolOp .Or (a :: b :: rest) pos) (tK w (mOr ma mb)) := by
  refine PEimp (pe_or ha hb) fun σ H Q h => TK_mono (ifV_in h) fun x H1 ⟨k, e, q⟩ => ⟨k, e, ?_⟩
  cases k with
  | true => exact tC_of (fun _ => .bl true) q
  | false => exact q
theorem se_not {a : Expr} {pos : Pos} {ma : M Hd} (ha : PE X a (tK w ma)) : PE X (.UnaryOp .Not a pos) (tK w (mNot ma)) := by
  refine PEimp (pe_not ha) fun σ H Q h => TK_mono (ifV_in h) fun x H1 ⟨k, e, q⟩ => ⟨k, e, ?_⟩
  cases k with
  | true => exact tC_of (fun _ => .bl false) q
  | false => exact tC_of (fun _ => .bl true) q
/-! ### a op b op c -/
def mChain (f g : D → D → Option RV) (a b c : M Hd) : M Hd := fun ρ => (a ρ).bind fun h1 ρ1 => (b ρ1).bind fun h2 ρ2 => (prim2 f h1 h2 ρ2).bind fun k ρ3 => match asB k ρ3 with
  | some true => (c ρ3).bind fun h3 ρ4 => prim2 g h2 h3 ρ4
  | some false => .ok (.v (.fz (.bool false))) ρ3
  | none => .bad
theorem chain_in {f g : D → D → Option RV} {r r' : R2} {ma mb mc : M Hd} {σ : L2.St} {H : Hp} {Q : VK} (h2 : Op2 w.K r f) (h3 : Op2 w.K r' g) (h : tK w (mChain f g ma mb mc) σ H Q) : tChain r r' (tK w ma) (tK w mb) (tK w mc) σ H Q := by
  obtain ⟨F, ρ, S, h⟩ := h
  refine ⟨F, ρ, S, (h.bind S).mono fun h1 ρ1 F1 H1 ⟨p, q⟩ x hx => ?_⟩
  refine ⟨F1, ρ1, p.st, (q.bind p.st).mono fun k ρ2 F2 H2 ⟨p2, q2⟩ y hy => ?_⟩
  have pp := p.trans S p2
  have hx2 := HdOk.carry S p p2 hx
  unfold prim2 at q2
  split at q2
  · rename_i d e ed ee
    split at q2
    · rename_i rv ef
      refine h2 F2 H2 x y d e rv _ p2.st.le (hx2.pk p2.st ed) (hy.pk p2.st ee) ef fun v F' H' m => ?_
      have pm := p2.st.made m
      have q3 := (q2.bind p2.st) F' H' pm
      obtain ⟨_, q3⟩ := q3
      obtain ⟨b, eb, q3⟩ := Wp.if (a := fun ρ3 => (mc ρ3).bind fun h3 ρ4 => prim2 g k h3 ρ4) (b := fun ρ3 => .ok (.v (.fz (.bool false))) ρ3) q3
      have hv : HdOk w.K F' ρ2 σ H2 H' v (.v rv) := m.rv
      refine ⟨b, (hv.pk pm.st eb).bl, ?_⟩
      cases b with
      | false => exact q3 F' H' (.refl pm.st) (.bl false) (Rp.bl false)
      | true =>
        refine ⟨F', ρ2, pm.st, (q3.bind pm.st).mono fun k3 ρ4 F4 H4 ⟨p4, q4⟩ z hz => ?_⟩
        have hy4 := HdOk.carry p.st p2 (pm.trans p2.st p4) hy
        unfold prim2 at q4
        split at q4
        · rename_i d' e' ed' ee'
          split at q4
          · rename_i rv' ef'
            exact h3 F4 H4 y z d' e' rv' Q p4.st.le (hy4.pk p4.st ed') (hz.pk p4.st ee') ef' fun v F5 H5 m5 => q4.prim S (pp.trans S (pm.trans p2.st p4)) m5
          · exact q4.elim
        · exact q4.elim
    · exact q2.elim
  · exact q2.elim
theorem se_chain {a b c : Expr} {op op' : CmpOp} {pos : Pos} {f g : D → D → Option RV} {r r' : R2} {ma mb mc : M Hd} (ho : OpR X (compareOp op) r) (h2 : Op2 w.K r f) (ho' : OpR X (compareOp op') r') (h3 : Op2 w.K r' g)
    (ha : PE X a (tK w ma)) (hb : PE X b (tK w mb)) (hc : PE X c (tK w mc)) (hm : lastMarks [op, op'] [b, c] = false) : PE X (.Compare a [op, op'] [b, c] pos) (tK w (mChain f g ma mb mc)) :=
  PEimp (pe_chain ho ho' ha hb hc hm) fun _ _ _ h => chain_in h2 h3 h
theorem st_chain {a b c : Expr} {op op' : CmpOp} {pos : Pos} {f g : D → D → Option RV} {r r' : R2} {ma mb mc : M Hd} (ho : OpR X (compareOp op) r) (h2 : Op2 w.K r f) (ho' : OpR X (compareOp op') r') (h3 : Op2 w.K r' g)
    (ha : PE X a (tK w ma)) (hb : PE X b (tK w mb)) (hc : PE X c (tK w mc)) (hm : lastMarks [op, op'] [b, c] = false) : PT X (.Compare a [op, op'] [b, c] pos) (tT w (mChain f g ma mb mc)) :=
  PTimp (pt_chain ho ho' ha hb hc hm) fun _ _ _ h => chain_in h2 h3 (tT_of h)

/-! ### argument lists -/
theorem HdsOk.carry {F F1 F2 H0 H1 H2 : Hp} {ρ ρ1 ρ2 : Ev} {σ : L2.St} {K : PySem.W.Frag} (S : St K F ρ σ H0) (p : StpE K F ρ σ H0 F1 ρ1 H1) (q : StpE K F1 ρ1 σ H1 F2 ρ2 H2) : ∀ {vs : List V} {hs : List Hd}, HdsOk K F1 ρ1 σ H0 H1 vs hs → HdsOk K F2 ρ2 σ H0 H2 vs hs
  | [], [], _ => trivial
  | v :: vs, h :: hs, ⟨a, b, c⟩ => ⟨HdOk.carry S p q a, HdsOk.carry S p q b, c⟩
  | [], _ :: _, h => h.elim
  | _ :: _, [], h => h.elim
theorem sa_nil : PA X [] (tA w (mArgs [])) := PAimp pa_nil fun σ H Q h => by
  obtain ⟨F, ρ, S, h⟩ := h
  exact h.ok S [] trivial
theorem HdsOk.start {F' H H1 H' : Hp} {ρ' : Ev} {σ : L2.St} {K : PySem.W.Frag} (d : ∀ b, NO H1 b → NO H b) : ∀ {vs : List V} {hs : List Hd}, HdsOk K F' ρ' σ H1 H' vs hs → HdsOk K F' ρ' σ H H' vs hs
  | [], [], _ => trivial
  | v :: vs, h :: hs, ⟨a, b, c⟩ => ⟨a.start d, HdsOk.start d b, c⟩
  | [], _ :: _, h => h.elim
  | _ :: _, [], h => h.elim
theorem sa_cons {e : Expr} {es : List Expr} {m : M Hd} {ms : List (M Hd)} (ha : PE X e (tK w m)) (hr : PA X es (tA w (mArgs ms))) (hs : starEach (e :: es) X.env = (false, eval e X.env) :: starEach es X.env) : PA X (e :: es) (tA w (mArgs (m :: ms))) := by
  refine PAimp (pa_cons ha hr hs) fun σ H Q h => ?_
  obtain ⟨F, ρ, S, h⟩ := h
  refine ⟨F, ρ, S, (h.bind S).mono fun h1 ρ1 F1 H1 ⟨p, q⟩ x hx => ?_⟩
  refine ⟨F1, ρ1, p.st, (q.bind p.st).mono fun k ρ2 F2 H2 ⟨p2, q2⟩ ys hy => ?_⟩
  refine q2.ok p2.st (x :: ys) ⟨HdOk.carry S p p2 hx, HdsOk.start p.dom hy, fun xs e u zs m eu => ?_⟩
  subst e
  obtain ⟨a, vs, ex, h0, h1', _⟩ := hx
  obtain ⟨b, us, ey, g0, _⟩ := hy.mem m
  rw [eu, ex] at ey
  cases ey
  exact g0.lst h1'
def PkAll (K : PySem.W.Frag) (F H : Hp) : List V → List D → Prop
  | [], [] => True
  | v :: vs, d :: ds => Pk K F H v d ∧ PkAll K F H vs ds
  | _, _ => False
theorem HdsOk.pk {F' H H' : Hp} {ρ' : Ev} {σ : L2.St} {K : PySem.W.Frag} (S : St K F' ρ' σ H') : ∀ {vs : List V} {hs : List Hd} {ds : List D}, HdsOk K F' ρ' σ H H' vs hs → rds hs ρ' = some ds → PkAll K F' H' vs ds
  | [], [], _, _, e => by cases e; trivial
  | v :: vs, h :: hs, ds, ⟨a, b, _⟩, e => by
    unfold rds at e
    split at e
    · rename_i d ds' e1 e2
      cases e
      exact ⟨a.pk S e1, HdsOk.pk S b e2⟩
    · cases e
  | [], _ :: _, _, h, _ => h.elim
  | _ :: _, [], _, h, _ => h.elim
def OpN (K : PySem.W.Frag) (r : List V → Hp → VK → Prop) (f : List D → Option RV) : Prop := ∀ (F H : Hp) (vs : List V) (ds : List D) (rv : RV) (Q : VK), Sub F H → PkAll K F H vs ds → f ds = some rv →
  (∀ v F' H', Mk K F H v F' H' rv → Q v H') → r vs H Q
theorem opN_in {f : List D → Option RV} {r : List V → Hp → VK → Prop} {ms : List (M Hd)} {σ : L2.St} {H : Hp} {Q : VK} (h2 : OpN w.K r f) (h : tK w (mPrim f ms) σ H Q) : tA w (mArgs ms) σ H fun vs H1 => r vs H1 Q := by
  obtain ⟨F, ρ, S, h⟩ := h
  refine ⟨F, ρ, S, (h.bind S).mono fun hs ρ1 F1 H1 ⟨p, q⟩ vs hv => ?_⟩
  unfold primN at q
  split at q
  · rename_i ds ed
    split at q
    · rename_i rv ef
      exact h2 F1 H1 vs ds rv Q p.st.le (hv.pk p.st ed) ef fun v F' H' m => q.prim S p m
    · exact q.elim
  · exact q.elim
end
end Pu
set_option Elab.async false
set_option linter.all false
set_option maxRecDepth 100000
set_option maxHeartbeats 1000000
/-! Pu3: the pure layer: what each operation does to data. -/
namespace Pu
open PySem L2 PyProof.Rows
abbrev lim : Nat := 16777216
theorem lim_le {n : Nat} (h : n ≤ lim) : n ≤ sizeLine := by rw [sizeLine_eq]; exact h
mutual
theorem Rp.plain {K : PySem.W.Frag} {F : Hp} : ∀ (d : D) (v : V), Rp K F v d → d.plain = true
  | .none, _, _ => rfl
  | .bool _, _, _ => rfl
  | .int _, _, _ => rfl
  | .str _, _, _ => rfl
  | .list ds, _, h => by
    cases h with
    | lst a b => exact RpAll.plain ds _ b
  | .tuple ds, _, h => by
    cases h with
    | tup a b => exact RpAll.plain ds _ b
  | .dict _, _, h => by cases h
theorem RpAll.plain {K : PySem.W.Frag} {F : Hp} : ∀ (ds : List D) (vs : List V), RpAll K F vs ds → PyData.plainAll ds = true
  | [], _, _ => rfl
  | d :: ds, _, h => by
    cases h with
    | cons a b =>
      show (d.plain && PyData.plainAll ds) = true
      rw [Rp.plain d _ a, RpAll.plain ds _ b]
      rfl
end
section
variable {X : Cx} {pins : List (Addr × Obj)} {σ : L2.St} {H : Hp} {s : Shared}
theorem Rp.reads (I : Inv X pins σ H s) {d : D} {v : V} {u : Value} (h : Rp X.K H v d) (r : RelV v u) : ∃ as, Reads s.heap u d as := Dp.reads I d v u (Rp.dp d v h) r
theorem RpAll.reads (I : Inv X pins σ H s) {d : List D} {v : List V} {u : List Value} (h : RpAll X.K H v d) (r : Vals v u) : ∃ as, ReadsAll s.heap u d as := Dp.readsAll I d v u (RpAll.dp d v h) r
end

/-! ### arithmetic -/
def mulOk (i j : Int) : Bool := (decide (-18446744073709551616 < i) && decide (i < 18446744073709551616)) || (decide (-18446744073709551616 < j) && decide (j < 18446744073709551616))
theorem mulOk_c {i j : Int} (h : mulOk i j = true) : CMul i j := by
  unfold mulOk at h
  simp only [Bool.or_eq_true, Bool.and_eq_true, decide_eq_true_eq] at h
  exact h
def fAdd : D → D → Option RV
  | .int i, .int j => some (.fz (.int (i + j)))
  | .str x, .str y => if x.length + y.length ≤ lim then some (.fz (.str (x ++ y))) else none
  | .list xs, .list ys => if xs.length + ys.length ≤ lim then some (.fr (xs ++ ys)) else none
  | .tuple xs, .tuple ys => if xs.length + ys.length ≤ lim then some (.fz (.tuple (xs ++ ys))) else none
  | .int i, .bool k => some (.fz (.int (i + b2i k)))
  | _, _ => none
def rIL (g : Int → Int → V) : R2 := rI0 g
def rCatL : R2 := fun x y H Q => ∃ l b xs zs, x = .ref l ∧ y = .ref b ∧ Rd H l (.lst xs) ∧ Rd H b (.lst zs) ∧ xs.length + zs.length ≤ sizeLine ∧ ∀ p, H p = none → Q (.ref p) (upd H p (.lst (xs ++ zs)))
section
variable {X : Cx}
theorem Inv.rdL {pins : List (Addr × Obj)} {σ : L2.St} {H : Hp} {s : Shared} {l : Addr} {xs : List V} (I : Inv X pins σ H s) (h : Rd H l (.lst xs)) : xs.length ≤ sizeLine ∧
    ∃ (its : List Value) (n : Nat), Vals xs its ∧ xs.length = its.length ∧ s.heap.get? l = some { cls := .type "list", data := .seq its.toArray n } := by
  have q : ObjOk X.prog X.w H s.heap l (.lst xs) := h.ok I.hok
  obtain ⟨z, its, n, r, e⟩ := q
  exact ⟨z, its, n, r, r.length, e⟩
theorem op_catL : OpR X (binaryOp .Add) rCatL := by
  intro pins s σ H x y v u Q I rx ry ⟨l, b, xs, zs, ex, ey, h1, h2, hz, q⟩
  subst ex; subst ey
  cases rx; cases ry
  obtain ⟨z1, as, n1, ra, la, ea⟩ := Inv.rdL I h1
  obtain ⟨z2, bs, n2, rb, lb, eb⟩ := Inv.rdL I h2
  refine PySem.P.add_list ea eb ?_ (by rw [List.size_toArray, List.size_toArray, ← la, ← lb]; exact hz)
  rw [show as.toArray ++ bs.toArray = (as ++ bs).toArray from by simp]
  exact ⟨.ref s.heap.objs.size, upd H s.heap.objs.size (.lst (xs ++ zs)), I.lnew (t' := s.toks) (ra.append rb) (by rw [List.length_append]; exact hz), rfl, q _ I.fresh⟩
end
def rAdd (K : PySem.W.Frag) : R2 := fun x y H Q => rI0 (fun i j => .int (i + j)) x y H Q ∨ (∃ i j, x = .str i ∧ y = .str j ∧ i.length + j.length ≤ sizeLine ∧ Q (.str (i ++ j)) H) ∨ rCatL x y H Q ∨ rCatA K x y H Q ∨
  (∃ i k, x = .int i ∧ y = .bl k ∧ Q (.int (i + b2i k)) H)
theorem or_add {X : Cx} : OpR X (binaryOp .Add) (rAdd X.K) := op_add.or (op_add_str.or (op_catL.or (op_catA.or op_add_ib)))
theorem ok_add {K : PySem.W.Frag} : Op2 K (rAdd K) fAdd := by
  intro F H x y d e rv Q s px py hf k
  cases d <;> cases e <;> simp only [fAdd] at hf <;> try (cases hf; done)
  · cases hf
    rename_i i j
    exact .inr (.inr (.inr (.inr ⟨i, j, px.int, py.bl, k _ _ _ (.val s (.int _))⟩)))
  · cases hf
    rename_i i j
    exact .inl ⟨i, j, px.int, py.int, k _ _ _ (.val s (.int _))⟩
  · split at hf
    · rename_i i j hz
      cases hf
      exact .inr (.inl ⟨i, j, px.str, py.str, lim_le hz, k _ _ _ (.val s (.str _))⟩)
    · cases hf
  · split at hf
    · rename_i i j hz
      cases hf
      obtain ⟨a, vs, e1, q1, r1⟩ := px.lst s
      obtain ⟨b, us, e2, q2, r2⟩ := py.lst s
      refine .inr (.inr (.inl ⟨a, b, vs, us, e1, e2, q1, q2, lim_le (by rw [r1.length, r2.length]; exact hz), fun p hp => k _ _ _ (.lst s hp (r1.append r2))⟩))
    · cases hf
  · split at hf
    · rename_i i j hz
      cases hf
      obtain ⟨a, vs, e1, q1, r1⟩ := px.tup
      obtain ⟨b, us, e2, q2, r2⟩ := py.tup
      refine .inr (.inr (.inr (.inl ⟨a, b, vs, us, e1, e2, s.sqT q1, s.sqT q2, lim_le (by rw [r1.length, r2.length]; exact hz), fun z => ?_, fun _ z => ?_, fun _ _ p hp => k _ _ _ (.tup s hp (r1.append r2))⟩)))
      · subst z
        cases i with
        | cons _ _ => cases r1
        | nil => exact k _ _ _ (.val s (.tup q2 r2))
      · subst z
        cases j with
        | cons _ _ => cases r2
        | nil => rw [List.append_nil] at k; exact k _ _ _ (.val s (.tup q1 r1))
    · cases hf
def fSub : D → D → Option RV
  | .int i, .int j => some (.fz (.int (i - j)))
  | _, _ => none
theorem ok_sub {K : PySem.W.Frag} : Op2 K (rI0 fun i j => .int (i - j)) fSub := by
  intro F H x y d e rv Q s px py hf k
  cases d <;> cases e <;> simp only [fSub] at hf <;> try (cases hf; done)
  cases hf
  exact ⟨_, _, px.int, py.int, k _ _ _ (.val s (.int _))⟩
def fDiv : D → D → Option RV
  | .int i, .int j => if 0 < j ∧ j < 1073741824 then some (.fz (.int (i / j))) else none
  | _, _ => none
theorem ok_div {K : PySem.W.Frag} : Op2 K (rI CDiv fun i j => .int (i / j)) fDiv := by
  intro F H x y d e rv Q s px py hf k
  cases d <;> cases e <;> simp only [fDiv] at hf <;> try (cases hf; done)
  split at hf
  · rename_i hz
    cases hf
    exact ⟨_, _, px.int, py.int, hz, k _ _ _ (.val s (.int _))⟩
  · cases hf
def fMod : D → D → Option RV
  | .int i, .int j => if 0 < j then some (.fz (.int (i % j))) else none
  | _, _ => none
theorem ok_mod {K : PySem.W.Frag} : Op2 K (rI (fun _ j => 0 < j) fun i j => .int (i % j)) fMod := by
  intro F H x y d e rv Q s px py hf k
  cases d <;> cases e <;> simp only [fMod] at hf <;> try (cases hf; done)
  split at hf
  · rename_i hz
    cases hf
    exact ⟨_, _, px.int, py.int, hz, k _ _ _ (.val s (.int _))⟩
  · cases hf
def fPow : D → D → Option RV
  | .int i, .int j => if 0 ≤ j ∧ j ≤ 1000000 ∧ i.natAbs < 18446744073709551616 then some (.fz (.int (i ^ j.toNat))) else none
  | _, _ => none
theorem ok_pow {K : PySem.W.Frag} : Op2 K (rI CPow fun i j => .int (i ^ j.toNat)) fPow := by
  intro F H x y d e rv Q s px py hf k
  cases d <;> cases e <;> simp only [fPow] at hf <;> try (cases hf; done)
  split at hf
  · rename_i hz
    cases hf
    exact ⟨_, _, px.int, py.int, hz, k _ _ _ (.val s (.int _))⟩
  · cases hf

/-! ### times -/
def rep {α : Type} (n : Nat) (xs : List α) : List α := (List.replicate n xs).flatten
theorem RpAll.rep {K : PySem.W.Frag} {F : Hp} {vs : List V} {ds : List D} (h : RpAll K F vs ds) : ∀ n, RpAll K F (rep n vs) (rep n ds)
  | 0 => .nil
  | n + 1 => by
    have ih := RpAll.rep h n
    unfold Pu.rep at ih ⊢
    rw [List.replicate_succ, List.flatten_cons, List.replicate_succ, List.flatten_cons]
    exact h.append ih
theorem rep_len {α : Type} (xs : List α) : ∀ n, (rep n xs).length = n * xs.length
  | 0 => by simp [rep]
  | n + 1 => by
    have ih := rep_len xs n
    unfold rep at ih ⊢
    rw [List.replicate_succ, List.flatten_cons, List.length_append, ih, Nat.add_mul, Nat.one_mul, Nat.add_comm]
section
variable {X : Cx}
def rRepL : R2 := fun x y H Q => ∃ l k xs, x = .ref l ∧ y = .int k ∧ Rd H l (.lst xs) ∧ -(2 ^ 63) ≤ k ∧ k < 2 ^ 63 ∧ xs.length * k.toNat ≤ sizeLine ∧ ∀ p, H p = none → Q (.ref p) (upd H p (.lst (rep k.toNat xs)))
theorem op_repL : OpR X (binaryOp .Mult) rRepL := by
  intro pins s σ H x y v u Q I rx ry ⟨l, k, xs, ex, ey, hH, h1, h2, hz, q⟩
  subst ex; subst ey
  cases rx
  obtain ⟨t, rfl⟩ := ry
  obtain ⟨z, its, n, r, hl, e⟩ := Inv.rdL I hH
  have g1 : its.toArray.size * k.toNat ≤ sizeLine := by rw [List.size_toArray, ← hl]; exact hz
  have g2 : ¬ its.toArray.size * k.toNat > (2 ^ 63 - 1) / 8 := by
    have g0 : (sizeLine : Nat) ≤ (2 ^ 63 - 1) / 8 := by decide
    omega
  have g3 : ¬ (!Builtin.List.listFitsIndex k) = true := by
    rw [fitsIndex_both h1 h2]; exact Bool.false_ne_true
  have g4 : ¬ Builtin.List.listTooLong (its.toArray.size * k.toNat) = true := by
    rw [notLongL g1]; exact Bool.false_ne_true
  have g5 : List.foldl (fun a b => a ++ b) #[] (List.replicate (if its.toArray.isEmpty = true then 0 else k.toNat) its.toArray) = (rep k.toNat its).toArray := by
    have f0 : ∀ m : Nat, List.foldl (fun a b => a ++ b) #[] (List.replicate m its.toArray) = (rep m its).toArray := fun m => by
      have g := foldl_rep its m []
      rw [List.nil_append] at g; exact g
    rw [f0]
    cases its with
    | nil => simp [rep]
    | cons a r' => rw [if_neg (by simp)]
  refine wpAny_binaryOp_repeat_ref (T := "list") (U := "int") (by decide) ⟨_, e, rfl⟩ (fun s' => typeIs_int s' k t) noFill_list_mul F.fills_int_mul F.slot_int_rmul repeat_list F.slot_int_index.lookup (call_meets F.slot_int_rmul (typeIs_int s k t) F.entry_int_rmul (F.args_int_rmul_2 _ _) (int___rmul___int_list k t l its.toArray n)
    ⟨e, rfl, ⟨_, e, rfl⟩, call_meets F.slot_list_mul ⟨_, e, rfl⟩ F.entry_list_mul (F.args_list_mul_2 _ _) (AutoListH.list___mul___list_int_3 l its.toArray n k t g3 g2 g4) ⟨e, ?_⟩⟩)
  rw [g5]
  exact ⟨.ref s.heap.objs.size, upd H s.heap.objs.size (.lst (rep k.toNat xs)), I.lnew (t' := s.toks) (r.rep k.toNat) (by rw [rep_len, Nat.mul_comm]; exact hz), rfl, q _ I.fresh⟩
end

theorem tuple_mul1 (l : Addr) (items : Array Value) (n : Nat) (u : Tok) : Meets (Builtin.«tuple.__mul__» ⟨[.ref l, .int 1 u], []⟩)
    (fun _ R s => (∃ dd sl, s.heap.get? l = some { cls := .type "tuple", dict := dd, data := .seq items n, slots := sl }) ∧ R (.ok (.ret (.ref l))) s) := .of_wp fun prog w A R s h => by
  obtain ⟨hp, g, d, tk, os⟩ := s
  obtain ⟨⟨dd, sl, hl⟩, h⟩ := h
  have f1 := AutoSeq1.idx_int
  wp_walk using AutoSeq1.wpAny_loadPart' hl
  repeat (first
    | (refine wpAny_ite_false (decide_eq_false (by decide)) ?_; wp_walk using AutoSeq1.wpAny_loadPart' hl)
    | (refine wpAny_ite_true (decide_eq_true (by simp)) ?_; wp_walk using AutoSeq1.wpAny_loadPart' hl))
  exact ⟨_, rfl, h⟩
section
variable {X : Cx}
def rRep1 (K : PySem.W.Frag) : R2 := fun x y H Q => ∃ l xs, x = .ref l ∧ y = .int 1 ∧ SqT K H l xs ∧ Q (.ref l) H
theorem op_rep1 : OpR X (binaryOp .Mult) (rRep1 X.K) := by
  intro pins s σ H x y v u Q I rx ry ⟨l, xs, ex, ey, hT, q⟩
  subst ex; subst ey
  cases rx
  obtain ⟨t, rfl⟩ := ry
  obtain ⟨its, r, ⟨⟨cls, dd, data, sl⟩, ho, hc, n, hd⟩, hs⟩ := I.tuple hT
  simp only at hc hd
  subst hc hd
  refine wpAny_binaryOp_repeat_ref (T := "tuple") (U := "int") (by decide) ⟨_, ho, rfl⟩ (fun s' => typeIs_int s' 1 t) noFill_tuple_mul F.fills_int_mul F.slot_int_rmul repeat_tuple F.slot_int_index.lookup (call_meets F.slot_int_rmul (typeIs_int s 1 t) F.entry_int_rmul
    (F.args_int_rmul_2 _ _) (int_rmul_tuple 1 t l its.toArray n dd sl) ⟨ho, rfl, ⟨_, ho, rfl⟩, call_meets F.slot_tuple_mul ⟨_, ho, rfl⟩ F.entry_tuple_mul (F.args_tuple_mul_2 _ _) (tuple_mul1 l its.toArray n t) ⟨⟨dd, sl, ho⟩, ?_⟩⟩)
  exact ⟨.ref l, H, I, rfl, q⟩
end
def fMul : D → D → Option RV
  | .int i, .int j => if mulOk i j = true then some (.fz (.int (i * j))) else none
  | .list xs, .int k => if -(2 ^ 63) ≤ k ∧ k < 2 ^ 63 ∧ xs.length * k.toNat ≤ lim then some (.fr (rep k.toNat xs)) else none
  | .tuple xs, .int k => if xs.length ≤ 1000 ∧ 1 ≤ k ∧ k ≤ 1000 ∧ xs.isEmpty = false then some (.fz (.tuple (rep k.toNat xs))) else none
  | _, _ => none
def rMul (K : PySem.W.Frag) : R2 := fun x y H Q => rI CMul (fun i j => .int (i * j)) x y H Q ∨ rRepL x y H Q ∨ rRepT K x y H Q ∨ rRep1 K x y H Q
theorem or_mul {X : Cx} : OpR X (binaryOp .Mult) (rMul X.K) := op_mul.or (op_repL.or (op_repT.or op_rep1))
theorem rep_one {α : Type} (xs : List α) : rep 1 xs = xs := by simp [rep]
theorem ok_mul {K : PySem.W.Frag} : Op2 K (rMul K) fMul := by
  intro F H x y d e rv Q s px py hf k
  cases d <;> cases e <;> simp only [fMul] at hf <;> try (cases hf; done)
  · split at hf
    · rename_i hz
      cases hf
      exact .inl ⟨_, _, px.int, py.int, mulOk_c hz, k _ _ _ (.val s (.int _))⟩
    · cases hf
  · split at hf
    · rename_i hz
      cases hf
      obtain ⟨a, vs, e1, q1, r1⟩ := px.lst s
      exact .inr (.inl ⟨a, _, vs, e1, py.int, q1, hz.1, hz.2.1, lim_le (by rw [r1.length]; exact hz.2.2), fun p hp => k _ _ _ (.lst s hp (r1.rep _))⟩)
    · cases hf
  · rename_i ds j
    split at hf
    · rename_i hz
      cases hf
      obtain ⟨h1, h2, h3, h4⟩ := hz
      obtain ⟨a, vs, e1, q1, r1⟩ := px.tup
      by_cases hj : j = 1
      · subst hj
        rw [show (1 : Int).toNat = 1 from rfl, rep_one] at k
        exact .inr (.inr (.inr ⟨a, vs, e1, py.int, s.sqT q1, k _ _ _ (.val s (.tup q1 r1))⟩))
      · refine .inr (.inr (.inl ⟨a, j, vs, e1, py.int, s.sqT q1, fun z => ?_, by omega, h3, by rw [r1.length]; exact h1, fun p hp => k _ _ _ (.tup s hp (r1.rep _))⟩))
        subst z
        cases ds with
        | nil => cases h4
        | cons _ _ => cases r1
    · cases hf
/-! ### comparisons -/
def small (d e : D) : Bool := decide (min d.depth e.depth ≤ 64)
def fEq (d e : D) : Option RV := if small d e = true then some (.fz (.bool (PyData.eqv d e))) else none
def fNe (d e : D) : Option RV := if small d e = true then some (.fz (.bool (!PyData.eqv d e))) else none
def rEqA (K : PySem.W.Frag) : R2 := fun x y H Q => ∃ d e, Rp K H x d ∧ Rp K H y e ∧ min d.depth e.depth ≤ 64 ∧ Q (.bl (PyData.eqv d e)) H
def rNeA (K : PySem.W.Frag) : R2 := fun x y H Q => ∃ d e, Rp K H x d ∧ Rp K H y e ∧ min d.depth e.depth ≤ 64 ∧ Q (.bl (!PyData.eqv d e)) H
section
variable {X : Cx}
theorem op_eqA (hu : X.A.units + 70 < cLine) : OpR X (compareOp .Eq) (rEqA X.K) := by
  intro pins s σ H x y v u Q I rx ry ⟨d, e, h1, h2, hs, q⟩
  obtain ⟨as, r1⟩ := h1.reads I rx
  obtain ⟨bs, r2⟩ := h2.reads I ry
  exact SeqAt.eq_plain r1 r2 h1.plain h2.plain (by omega) ⟨.bl _, H, I, rfl, q⟩
theorem op_neA (hu : X.A.units + 70 < cLine) : OpR X (compareOp .NotEq) (rNeA X.K) := by
  intro pins s σ H x y v u Q I rx ry ⟨d, e, h1, h2, hs, q⟩
  obtain ⟨as, r1⟩ := h1.reads I rx
  obtain ⟨bs, r2⟩ := h2.reads I ry
  exact SeqAt.ne_plain r1 r2 h1.plain h2.plain (by omega) ⟨.bl _, H, I, rfl, q⟩
end
theorem ok_eq {K : PySem.W.Frag} : Op2 K (rEqA K) fEq := by
  intro F H x y d e rv Q s px py hf k
  unfold fEq at hf
  split at hf
  · rename_i hz
    cases hf
    exact ⟨d, e, px.rpH s, py.rpH s, of_decide_eq_true hz, k _ _ _ (.val s (.bl _))⟩
  · cases hf
theorem ok_ne {K : PySem.W.Frag} : Op2 K (rNeA K) fNe := by
  intro F H x y d e rv Q s px py hf k
  unfold fNe at hf
  split at hf
  · rename_i hz
    cases hf
    exact ⟨d, e, px.rpH s, py.rpH s, of_decide_eq_true hz, k _ _ _ (.val s (.bl _))⟩
  · cases hf
def isNon : D → Bool
  | .none => true
  | _ => false
/-- order: whole numbers, or data that are alike -/
def fOrd (g : Int → Int → Bool) (h : D → D → Bool) (d e : D) : Option RV := match d, e with
  | .int i, .int j => some (.fz (.bool (g i j)))
  | d, e => if small d e = true ∧ PySem.W.alike d e = true ∧ isNon d = false then some (.fz (.bool (h d e))) else none
def fLt : D → D → Option RV := fOrd (fun i j => decide (i < j)) fun d e => PySem.W.dataLt d e
def fGt : D → D → Option RV := fOrd (fun i j => decide (j < i)) fun d e => PySem.W.dataLt e d
def fLe : D → D → Option RV := fOrd (fun i j => decide (i ≤ j)) fun d e => !PySem.W.dataLt e d
def fGe : D → D → Option RV := fOrd (fun i j => decide (j ≤ i)) fun d e => !PySem.W.dataLt d e
def rOrd (K : PySem.W.Frag) (g : Int → Int → Bool) (h : D → D → Bool) : R2 := fun x y H Q => (rI0 fun i j => .bl (g i j)) x y H Q ∨ ∃ d e, Rp K H x d ∧ Rp K H y e ∧ min d.depth e.depth ≤ 64 ∧ PySem.W.alike d e = true ∧ isNon d = false ∧ Q (.bl (h d e)) H
theorem isNon_ne {d : D} (h : isNon d = false) : d ≠ .none := fun e => by rw [e] at h; cases h
section
variable {X : Cx}
theorem op_ltA (hu : X.A.units + 70 < cLine) : OpR X (compareOp .Lt) (rOrd X.K (fun i j => decide (i < j)) fun d e => PySem.W.dataLt d e) := op_lt.or (by
  intro pins s σ H x y v u Q I rx ry ⟨d, e, h1, h2, hs, ha, hn, q⟩
  obtain ⟨as, r1⟩ := h1.reads I rx
  obtain ⟨bs, r2⟩ := h2.reads I ry
  exact PySem.W.lt_data r1 r2 ha (isNon_ne hn) (by omega) ⟨.bl _, H, I, rfl, q⟩)
theorem op_gtA (hu : X.A.units + 70 < cLine) : OpR X (compareOp .Gt) (rOrd X.K (fun i j => decide (j < i)) fun d e => PySem.W.dataLt e d) := op_gt.or (by
  intro pins s σ H x y v u Q I rx ry ⟨d, e, h1, h2, hs, ha, hn, q⟩
  obtain ⟨as, r1⟩ := h1.reads I rx
  obtain ⟨bs, r2⟩ := h2.reads I ry
  exact PySem.W.gt_data r1 r2 ha (isNon_ne hn) (by omega) ⟨.bl _, H, I, rfl, q⟩)
theorem op_leA (hu : X.A.units + 70 < cLine) : OpR X (compareOp .LtE) (rOrd X.K (fun i j => decide (i ≤ j)) fun d e => !PySem.W.dataLt e d) := op_le.or (by
  intro pins s σ H x y v u Q I rx ry ⟨d, e, h1, h2, hs, ha, hn, q⟩
  obtain ⟨as, r1⟩ := h1.reads I rx
  obtain ⟨bs, r2⟩ := h2.reads I ry
  exact PySem.W.le_data r1 r2 ha (isNon_ne hn) (by omega) ⟨.bl _, H, I, rfl, q⟩)
theorem op_geA (hu : X.A.units + 70 < cLine) : OpR X (compareOp .GtE) (rOrd X.K (fun i j => decide (j ≤ i)) fun d e => !PySem.W.dataLt d e) := op_ge.or (by
  intro pins s σ H x y v u Q I rx ry ⟨d, e, h1, h2, hs, ha, hn, q⟩
  obtain ⟨as, r1⟩ := h1.reads I rx
  obtain ⟨bs, r2⟩ := h2.reads I ry
  exact PySem.W.ge_data r1 r2 ha (isNon_ne hn) (by omega) ⟨.bl _, H, I, rfl, q⟩)
end
theorem ok_ord {K : PySem.W.Frag} (g : Int → Int → Bool) (h : D → D → Bool) : Op2 K (rOrd K g h) (fOrd g h) := by
  intro F H x y d e rv Q s px py hf k
  unfold fOrd at hf
  split at hf
  · cases hf
    exact .inl ⟨_, _, px.int, py.int, k _ _ _ (.val s (.bl _))⟩
  · split at hf
    · rename_i hz
      cases hf
      exact .inr ⟨_, _, px.rpH s, py.rpH s, of_decide_eq_true hz.1, hz.2.1, hz.2.2, k _ _ _ (.val s (.bl _))⟩
    · cases hf
/-- in -/
def fIn (neg : Bool) (d : D) : D → Option RV
  | .list xs => if min (PyData.depthAll xs) d.depth ≤ 64 then some (.fz (.bool (neg != xs.any fun y => PyData.eqv y d))) else none
  | .tuple xs => if min (PyData.depthAll xs) d.depth ≤ 64 then some (.fz (.bool (neg != xs.any fun y => PyData.eqv y d))) else none
  | .str y => (match d with
    | .str x => if x.length = 1 then some (.fz (.bool (neg != decide (x.cps.getD 0 0 ∈ y.cps.toList)))) else none
    | _ => none)
  | _ => none
def rInA (K : PySem.W.Frag) (neg : Bool) : R2 := fun x y H Q => ∃ d xs, Rp K H x d ∧ (Rp K H y (.list xs) ∨ Rp K H y (.tuple xs)) ∧ min (PyData.depthAll xs) d.depth ≤ 64 ∧ Q (.bl (neg != xs.any fun z => PyData.eqv z d)) H
section
variable {X : Cx}
theorem op_inA (hu : X.A.units + 70 < cLine) : OpR X (compareOp .In) (rInA X.K false) := by
  intro pins s σ H x y v u Q I rx ry ⟨d, xs, h1, h2, hs, q⟩
  obtain ⟨as, r1⟩ := h1.reads I rx
  have fin : EP X pins σ Q (.bool (xs.any fun z => PyData.eqv z d)) s := ⟨.bl _, H, I, rfl, by simpa using q⟩
  rcases h2 with h2 | h2
  · obtain ⟨bs, r2⟩ := h2.reads I ry
    exact SeqAt.in_list_data r2 r1 h2.plain h1.plain (by omega) fin
  · obtain ⟨bs, r2⟩ := h2.reads I ry
    exact SeqAt.in_tuple_data r2 r1 h2.plain h1.plain (by omega) fin
theorem op_notinA (hu : X.A.units + 70 < cLine) : OpR X (compareOp .NotIn) (rInA X.K true) := by
  intro pins s σ H x y v u Q I rx ry ⟨d, xs, h1, h2, hs, q⟩
  obtain ⟨as, r1⟩ := h1.reads I rx
  have fin : EP X pins σ Q (.bool (!xs.any fun z => PyData.eqv z d)) s := ⟨.bl _, H, I, rfl, by simpa using q⟩
  rcases h2 with h2 | h2
  · obtain ⟨bs, r2⟩ := h2.reads I ry
    exact SeqAt.notIn_list_data r2 r1 h2.plain h1.plain (by omega) fin
  · obtain ⟨bs, r2⟩ := h2.reads I ry
    exact SeqAt.notIn_tuple_data r2 r1 h2.plain h1.plain (by omega) fin
end

theorem one_sign {x : Str} (h : x.length = 1) : x = ⟨#[x.cps.getD 0 0]⟩ := by
  obtain ⟨c⟩ := x
  obtain ⟨l⟩ := c
  have h : l.length = 1 := h
  match l, h with
  | [a], _ => rfl
def rInS (neg : Bool) : R2 := fun x y H Q => ∃ (c : Nat) (z : Str), x = .str ⟨#[c]⟩ ∧ y = .str z ∧ Q (.bl (neg != decide (c ∈ z.cps.toList))) H
section
variable {X : Cx}
theorem op_inS : OpR X (compareOp .In) (rInS false) := by
  intro pins s σ H x y v u Q I rx ry ⟨c, z, h1, h2, q⟩
  exact op_in_sign pins s σ H x y v u Q I rx ry ⟨c, z, h1, h2, by simpa using q⟩
theorem op_notinS : OpR X (compareOp .NotIn) (rInS true) := by
  intro pins s σ H x y v u Q I rx ry ⟨c, z, h1, h2, q⟩
  exact op_notIn_sign pins s σ H x y v u Q I rx ry ⟨c, z, h1, h2, by simpa using q⟩
def rInB (K : PySem.W.Frag) (neg : Bool) : R2 := fun x y H Q => rInA K neg x y H Q ∨ rInS neg x y H Q
theorem or_in (hu : X.A.units + 70 < cLine) : OpR X (compareOp .In) (rInB X.K false) := (op_inA hu).or op_inS
theorem or_notin (hu : X.A.units + 70 < cLine) : OpR X (compareOp .NotIn) (rInB X.K true) := (op_notinA hu).or op_notinS
end
theorem ok_in {K : PySem.W.Frag} (neg : Bool) : Op2 K (rInB K neg) (fIn neg) := by
  intro F H x y d e rv Q s px py hf k
  cases e <;> simp only [fIn] at hf <;> try (cases hf; done)
  · cases d <;> simp only at hf <;> try (cases hf; done)
    split at hf
    · rename_i a b hz
      cases hf
      exact .inr ⟨_, _, by rw [px.str, ← one_sign hz], py.str, k _ _ _ (.val s (.bl _))⟩
    · cases hf
  · split at hf
    · rename_i hz
      cases hf
      exact .inl ⟨_, _, px.rpH s, .inl (py.rpH s), hz, k _ _ _ (.val s (.bl _))⟩
    · cases hf
  · split at hf
    · rename_i hz
      cases hf
      exact .inl ⟨_, _, px.rpH s, .inr (py.rpH s), hz, k _ _ _ (.val s (.bl _))⟩
    · cases hf
/-- is None -/
def fIs (neg : Bool) (d : D) : D → Option RV
  | .none => some (.fz (.bool (neg != isNon d)))
  | _ => none
def rIsN (neg : Bool) : R2 := fun x y H Q => y = .non ∧ Q (.bl (neg != decide (x = .non))) H
section
variable {X : Cx}
theorem op_isA : OpR X (compareOp .Is) (rIsN false) := by
  intro pins s σ H x y v u Q I rx ry ⟨e, q⟩
  exact op_isN pins s σ H x y v u Q I rx ry ⟨e, by simpa using q⟩
theorem op_isnotA : OpR X (compareOp .IsNot) (rIsN true) := by
  intro pins s σ H x y v u Q I rx ry ⟨e, q⟩
  exact op_notN pins s σ H x y v u Q I rx ry ⟨e, by simpa using q⟩
end
theorem Pk.isNon {K : PySem.W.Frag} {F H : Hp} {v : V} {d : D} (h : Pk K F H v d) : decide (v = .non) = isNon d := by
  rcases h with h | ⟨a, vs, xs, rfl, rfl, _, _⟩
  · cases h <;> simp [Pu.isNon]
  · simp [Pu.isNon]
theorem ok_is {K : PySem.W.Frag} (neg : Bool) : Op2 K (rIsN neg) (fIs neg) := by
  intro F H x y d e rv Q s px py hf k
  cases e <;> simp only [fIs] at hf <;> try (cases hf; done)
  cases hf
  refine ⟨py.non, ?_⟩
  rw [px.isNon]
  exact k _ _ _ (.val s (.bl _))

/-! ### one operand -/
def Op1 (K : PySem.W.Frag) (r : V → Hp → VK → Prop) (f : D → Option RV) : Prop := ∀ (F H : Hp) (x : V) (d : D) (rv : RV) (Q : VK), Sub F H → Pk K F H x d → f d = some rv → (∀ v F' H', Mk K F H v F' H' rv → Q v H') → r x H Q
theorem op1_in {w : Wi} {f : D → Option RV} {r : V → Hp → VK → Prop} {ma : M Hd} {σ : L2.St} {H : Hp} {Q : VK} (h2 : Op1 w.K r f) (h : tK w (mUn f ma) σ H Q) : tK w ma σ H fun x H1 => r x H1 Q := by
  obtain ⟨F, ρ, S, h⟩ := h
  refine ⟨F, ρ, S, (h.bind S).mono fun h1 ρ1 F1 H1 ⟨p, q⟩ x hx => ?_⟩
  unfold prim1 at q
  split at q
  · rename_i d ed
    split at q
    · rename_i rv ef
      exact h2 F1 H1 x d rv Q p.st.le (hx.pk p.st ed) ef fun v F' H' m => q.prim S p m
    · exact q.elim
  · exact q.elim
def fNeg : D → Option RV
  | .int i => some (.fz (.int (-i)))
  | _ => none
theorem ok_neg {K : PySem.W.Frag} : Op1 K (rU fun i => .int (-i)) fNeg := by
  intro F H x d rv Q s px hf k
  cases d <;> simp only [fNeg] at hf <;> try (cases hf; done)
  cases hf
  exact ⟨_, px.int, k _ _ _ (.val s (.int _))⟩
theorem se_neg {w : Wi} {X : Cx} {a : Expr} {pos : Pos} {m : M Hd} (ha : PE X a (tK w m)) : PE X (.UnaryOp .USub a pos) (tK w (mUn fNeg m)) := PEimp (pe_un un_neg ha) fun _ _ _ h => op1_in ok_neg h

/-! ### items -/
def fItem : D → D → Option RV
  | .list xs, .int i => (atI xs i).map .fz
  | .tuple xs, .int i => (atI xs i).map .fz
  | .str z, .int i => if z.length ≤ lim then (atI z.cps.toList i).map fun c => .fz (.str ⟨#[c]⟩) else none
  | _, _ => none
theorem atI_len {α β : Type} {xs : List α} {ys : List β} {i : Int} {y : β} (hl : xs.length = ys.length) (h : atI ys i = some y) : ∃ (j : Nat) (x : α), ys[j]? = some y ∧ xs[j]? = some x ∧ atI xs i = some x := by
  unfold atI at h ⊢
  rw [hl]
  cases e : ixN ys.length i with
  | none => rw [e] at h; cases h
  | some j =>
    rw [e] at h
    have h : ys[j]? = some y := h
    obtain ⟨hj, _⟩ := List.getElem?_eq_some_iff.mp h
    exact ⟨j, xs[j]'(by omega), h, List.getElem?_eq_getElem (by omega), List.getElem?_eq_getElem (by omega)⟩
theorem ok_item {K : PySem.W.Frag} : Op2 K (rIx K) fItem := by
  intro F H x y d e rv Q s px py hf k
  cases d <;> cases e <;> simp only [fItem] at hf <;> try (cases hf; done)
  · split at hf
    · rename_i z i hz
      cases ea : atI z.cps.toList i with
      | none => rw [ea] at hf; cases hf
      | some c =>
        rw [ea] at hf
        cases hf
        exact .inr (.inr ⟨z, i, c, px.str, py.int, lim_le hz, ea, k _ _ _ (.val s (.str _))⟩)
    · cases hf
  · rename_i xs i
    cases ea : atI xs i with
    | none => rw [ea] at hf; cases hf
    | some c =>
      rw [ea] at hf
      cases hf
      obtain ⟨a, vs, e1, q1, r1⟩ := px.lst s
      obtain ⟨j, v, hj, hv, hi⟩ := atI_len r1.length ea
      obtain ⟨v', hv', rp⟩ := r1.get hj
      rw [hv] at hv'
      cases hv'
      exact .inl ⟨a, vs, i, v, e1, py.int, .inl q1, hi, k _ _ _ (.val s rp)⟩
  · rename_i xs i
    cases ea : atI xs i with
    | none => rw [ea] at hf; cases hf
    | some c =>
      rw [ea] at hf
      cases hf
      obtain ⟨a, vs, e1, q1, r1⟩ := px.tup
      obtain ⟨j, v, hj, hv, hi⟩ := atI_len r1.length ea
      obtain ⟨v', hv', rp⟩ := r1.get hj
      rw [hv] at hv'
      cases hv'
      exact .inr (.inl ⟨a, vs, i, v, e1, py.int, s.sqT q1, hi, k _ _ _ (.val s rp)⟩)
theorem se_item {w : Wi} {X : Cx} {a b : Expr} {pos : Pos} {ma mb : M Hd} (hK : w.K = X.K) (ha : PE X a (tK w ma)) (hb : PE X b (tK w mb)) (hs : PlainIx b) : PE X (.Subscript a b pos) (tK w (mBin fItem ma mb)) :=
  PEimp (pe_ix ix_seq ha hb hs) fun _ _ _ h => op2_in (hK ▸ ok_item) h
/-! ### slices -/
def cutD {α : Type} (xs : List α) (lo hi : Option Int) : List α := (xs.drop (HT.sIx xs.length 0 lo)).take (HT.sIx xs.length xs.length hi - HT.sIx xs.length 0 lo)
def optI : Option D → Option (Option Int)
  | none => some none
  | some (.int i) => some (some i)
  | some _ => none
def fCut (d : D) (lo hi : Option Int) : Option RV := match d with
  | .list xs => some (.fr (cutD xs lo hi))
  | .tuple xs => some (.fz (.tuple (cutD xs lo hi)))
  | .str z => if z.length ≤ lim then some (.fz (.str (cutS z lo hi))) else none
  | _ => none
def rCut (K : PySem.W.Frag) : V → Option Int → Option Int → Hp → VK → Prop := fun x lo hi H Q => rSlL K x lo hi H Q ∨ rSlA K x lo hi H Q ∨ rSlS x lo hi H Q
theorem sl_cut {X : Cx} : SlR X (rCut X.K) := sl_list.or (sl_tupA.or sl_str)
theorem cut_whole {α : Type} {xs : List α} {lo hi : Option Int} (h : HT.sIx xs.length 0 lo = 0 ∧ HT.sIx xs.length xs.length hi = xs.length) : cutD xs lo hi = xs := by
  unfold cutD
  rw [h.1, h.2]
  simp
theorem RpAll.cut {K : PySem.W.Frag} {F : Hp} {vs : List V} {ds : List D} (lo hi : Option Int) (h : RpAll K F vs ds) : RpAll K F (cutV vs lo hi) (cutD ds lo hi) := by
  unfold cutV cutD
  rw [h.length]
  exact (h.drop _).take _
theorem ok_cut {K : PySem.W.Frag} {F H : Hp} {x : V} {d : D} {lo hi : Option Int} {rv : RV} {Q : VK} (s : Sub F H) (px : Pk K F H x d) (hf : fCut d lo hi = some rv) (k : ∀ v F' H', Mk K F H v F' H' rv → Q v H') : rCut K x lo hi H Q := by
  cases d <;> simp only [fCut] at hf <;> try (cases hf; done)
  · split at hf
    · rename_i z hz
      cases hf
      exact .inr (.inr ⟨z, px.str, lim_le hz, k _ _ _ (.val s (.str _))⟩)
    · cases hf
  · cases hf
    obtain ⟨a, vs, e1, q1, r1⟩ := px.lst s
    exact .inl ⟨a, vs, e1, .inl q1, fun p hp => k _ _ _ (.lst s hp (r1.cut lo hi))⟩
  · cases hf
    obtain ⟨a, vs, e1, q1, r1⟩ := px.tup
    refine .inr (.inl ⟨a, vs, e1, s.sqT q1, fun z => ?_, fun _ p hp => k _ _ _ (.tup s hp (r1.cut lo hi))⟩)
    rw [r1.length] at z
    rw [cut_whole z] at k
    exact k _ _ _ (.val s (.tup q1 r1))
end Pu
set_option Elab.async false
set_option linter.all false
set_option maxRecDepth 100000
set_option maxHeartbeats 1000000
/-! Pu4: the pure layer: slices, displays, shared values, calls of built-ins. -/
namespace Pu
open PySem L2 PyProof.Rows
/-! ### slices -/
def tO (w : Wi) (m : M (Option Int)) : TO := fun σ H Q => ∃ F ρ, St w.K F ρ σ H ∧ Wp w F ρ σ H (m ρ) fun o _ _ H' => Q o H'
def optM : Option (M Hd) → M (Option Int)
  | none => fun ρ => .ok none ρ
  | some m => fun ρ => (m ρ).bind fun h ρ' => match rd h ρ' with
    | some (.int i) => .ok (some i) ρ'
    | _ => .bad
def mCut (m : M Hd) (lo hi : M (Option Int)) : M Hd := fun ρ => (m ρ).bind fun h ρ1 => (lo ρ1).bind fun l ρ2 => (hi ρ2).bind fun u ρ3 => match rd h ρ3 with
  | some d => (match fCut d l u with
    | some r => .ok (.v r) ρ3
    | none => .bad)
  | none => .bad
section
variable {w : Wi} {X : Cx}
theorem so_none : PO X none (tO w (optM none)) := ⟨fun pins s σ H Q I ⟨F, ρ, S, h⟩ => po_none.run pins s σ H Q I (h.ok S)⟩
theorem so_some {e : Expr} {m : M Hd} (h : PE X e (tK w m)) : PO X (some e) (tO w (optM (some m))) := ⟨fun pins s σ H Q I ⟨F, ρ, S, q⟩ => (po_some h).run pins s σ H Q I (by
  refine ⟨F, ρ, S, (Wp.bind S q).mono fun k ρ1 F1 H1 ⟨p, q⟩ v hv => ?_⟩
  split at q
  · rename_i i e
    exact ⟨i, (hv.pk p.st e).int, q.ok p.st⟩
  · exact q.elim)⟩
theorem se_cut {e : Expr} {lo hi : Option Expr} {p2 pos : Pos} {m : M Hd} {ml mh : M (Option Int)} (hK : w.K = X.K) (he : PE X e (tK w m)) (hl : PO X lo (tO w ml)) (hh : PO X hi (tO w mh)) : PE X (.Subscript e (.Slice lo hi none p2) pos) (tK w (mCut m ml mh)) := by
  refine PEimp (pe_slice sl_cut he hl hh) fun σ H Q ⟨F, ρ, S, h⟩ => ?_
  refine ⟨F, ρ, S, (Wp.bind S h).mono fun k ρ1 F1 H1 ⟨p, q⟩ v hv => ⟨F1, ρ1, p.st, (Wp.bind p.st q).mono fun l ρ2 F2 H2 ⟨p2, q2⟩ => ⟨F2, ρ2, p2.st, (Wp.bind p2.st q2).mono fun u ρ3 F3 H3 ⟨p3, q3⟩ => ?_⟩⟩⟩
  have pp := p2.trans p.st p3
  split at q3
  · rename_i d ed
    split at q3
    · rename_i rv ef
      have hv3 := HdOk.carry S p pp hv
      exact hK ▸ ok_cut p3.st.le (hv3.pk p3.st ed) ef fun v F' H' m => q3.prim S (p.trans S pp) m
    · exact q3.elim
  · exact q3.elim
/-- xs[::-1] of a list or a tuple -/
def fRev : D → Option RV
  | .list xs => some (.fr xs.reverse)
  | .tuple xs => some (.fz (.tuple xs.reverse))
  | _ => none
theorem RpAll.reverse {K : PySem.W.Frag} {F : Hp} : ∀ {ds : List D} {vs : List V}, RpAll K F vs ds → RpAll K F vs.reverse ds.reverse
  | [], _, h => by cases h; exact .nil
  | d :: ds, _, h => by
    cases h with
    | cons a b =>
      rw [List.reverse_cons, List.reverse_cons]
      exact (RpAll.reverse b).append (.cons a .nil)
theorem places_back (n : Nat) : Builtin.Slice.slicePlaces ((n : Int) - 1) (-1) (-1) = n := by
  unfold Builtin.Slice.slicePlaces
  rw [if_neg (by decide), show -(-1 : Int) = 1 from rfl, Int.ediv_one]
  split <;> omega
theorem pick_back {α : Type} (xs : List α) : (List.range xs.length).filterMap (fun (k : Nat) => xs.toArray[(((xs.length : Int) - 1) + (k : Int) * -1).toNat]?) = xs.reverse := by
  have key : ∀ n, n ≤ xs.length → (List.range n).filterMap (fun (k : Nat) => xs.toArray[(((xs.length : Int) - 1) + (k : Int) * -1).toNat]?) = xs.reverse.take n := by
    intro n
    induction n with
    | zero => intro _; simp
    | succ n ih =>
      intro h
      rw [List.range_succ, List.filterMap_append, ih (by omega)]
      have e : (((xs.length : Int) - 1) + (n : Int) * -1).toNat = xs.length - 1 - n := by omega
      have e2 : xs.toArray[xs.length - 1 - n]? = some (xs[xs.length - 1 - n]'(by omega)) := by simp
      rw [List.take_add_one, List.getElem?_reverse (by omega)]
      simp only [List.filterMap_cons, List.filterMap_nil, e, e2]
      rw [List.getElem?_eq_getElem (by omega)]
      rfl
  have z := key xs.length (Nat.le_refl _)
  rw [z, ← List.length_reverse, List.take_length]
theorem getItem_tuple_back {prog : Program} {w : World} {A : Around} {E : Value → Shared → Prop} {s : Shared} {t sl : Addr} {its : List Value} {vs : Value} {Q : Value → Shared → Prop} (ht : IsTup s.heap t its.toArray) (hs : s.heap.IsSliceOf sl .none .none vs) (ps : IsPart vs (some (-1)))
    (h : Q (.ref s.heap.objs.size) { s with heap := s.heap.push { cls := .type "tuple", data := .seq its.reverse.toArray } }) (hsz : its.length ≤ sizeLine) : wpAny (model prog w) A (getItem (.ref t) (.ref sl)) Q E s := by
  have hz : sizeOk (.seq its.reverse.toArray) := by
    show its.reverse.toArray.size ≤ sizeLine
    rw [List.size_toArray, List.length_reverse]; exact hsz
  obtain ⟨os, hos, hcs, hds⟩ := id hs
  have hTs : s.TypeIs (.ref sl) "slice" := ⟨os, hos, hcs⟩
  unfold getItem
  try with_reducible refine wpAny_holding ?_
  first | refine wpAny_bind (wpAny_pure ?_) | skip
  refine wpAny_bind (wpAny_sequenceKey ht.typeIs (by decide) ?_)
  refine wpAny_bind (wpAny_callSpecial?_slot (name := Str.ofString "__getitem__") ht.typeIs PyProof.Rows.slot_tuple_getitem (wpAny_call_entry PyProof.Rows.slot_tuple_getitem ht.typeIs entry_tuple_getitem ?_ (args_tuple_getitem _ _)))
  show wpAny _ _ (Builtin.Tuple.tupleItemsOf (.ref t) >>= _) _ _ s
  refine wpAny_bind (tupleItemsOf_ ht ?_)
  refine wpAny_bind (wpAny_typeOf hTs ?_)
  rw [if_pos (by decide)]
  have hsl : ∀ {Q' : Int × Int × Nat → Shared → Prop} {E' : Value → Shared → Prop}, Q' ((its.length : Int) - 1, -1, its.length) s → wpAny (model prog w) (A.in1) (Builtin.Slice.sliceApplied (.ref sl) (pure ((its.toArray.size : Nat) : Int))) Q' E' s := fun {Q' E'} hq => by
    unfold Builtin.Slice.sliceApplied Builtin.Slice.sliceFields
    refine wpAny_bind (wpAny_bind (wpAny_field hos hds (x := .none) rfl (wpAny_bind (wpAny_field hos hds (x := .none) rfl (wpAny_bind (wpAny_field hos hds (x := vs) rfl (wpAny_pure ?_)))))))
    refine wpAny_bind (HT.slicePart_ ps ?_)
    show wpAny _ _ (if ((-1 : Int) == 0) = true then _ else _) _ _ s
    rw [if_neg (by decide)]
    refine wpAny_bind (HT.slicePart_ .none (wpAny_bind (HT.slicePart_ .none (wpAny_bind (wpAny_pure ?_)))))
    refine wpAny_pure ?_
    show Q' ((its.toArray.size : Int) - 1, -1, Builtin.Slice.slicePlaces ((its.toArray.size : Int) - 1) (-1) (-1)) s
    rw [List.size_toArray, places_back]
    exact hq
  refine wpAny_bind (hsl ?_)
  have hno : ¬ ((((its.length : Int) - 1 == 0 && (-1 : Int) == 1 && its.length == its.toArray.size)) = true) := by simp
  show wpAny _ _ (if ((((its.length : Int) - 1 == 0 && (-1 : Int) == 1 && its.length == its.toArray.size)) = true) then _ else _) _ _ s
  rw [if_neg hno, pick_back]
  first
    | exact wpAny_bind (m := Builtin.Tuple.tupleExact _) (wpAny_newObj_type (wpAny_pure ⟨_, rfl, wpAny_pure h⟩) hz)
    | exact wpAny_bind (m := Builtin.Tuple.tupleExact _) (wpAny_newObj_type (wpAny_bind (wpAny_pure (wpAny_pure ⟨_, rfl, wpAny_pure h⟩))) hz)
    | exact wpAny_bind (wpAny_bind (m := Builtin.Tuple.tupleExact _) (wpAny_newObj_type (wpAny_pure (wpAny_pure ⟨_, rfl, wpAny_pure h⟩)) hz))
    | exact wpAny_bind (wpAny_bind (m := Builtin.Tuple.tupleExact _) (wpAny_newObj_type (wpAny_pure ⟨_, rfl, wpAny_pure h⟩) hz))
def rRevA (K : PySem.W.Frag) : V → Hp → VK → Prop := fun x H Q => (∃ a xs, x = .ref a ∧ SqL K H a xs ∧ ∀ p, H p = none → Q (.ref p) (upd H p (.lst xs.reverse))) ∨ ∃ a xs, x = .ref a ∧ SqT K H a xs ∧ ∀ p, H p = none → Q (.ref p) (upd H p (.tup xs.reverse))
theorem pe_back {e : Expr} {te : TE} {k : Nat} {p1 p2 p3 pos : Pos} (he : PE X e te) : PE X (.Subscript e (.Slice none none (some (.UnaryOp .USub (.Constant (.int 1) k p1) p2)) p3) pos) (fun σ H Q => te σ H fun x H1 => rRevA X.K x H1 Q) := by
  refine ⟨fun pins s σ H Q I h => ?_⟩
  refine Subscript_ (thn (he.run pins s σ H _ I h) fun v s1 ⟨x, H1, I1, r1, q1⟩ => ?_)
  have hst : PO X (some (.UnaryOp .USub (.Constant (.int 1) k p1) p2)) (tPart (tUn (rU fun i => .int (-i)) (tC (.int 1)))) := po_some (pe_un un_neg pe_int)
  refine wpAny_Slice ?_
  rw [evalPart_none]
  refine wpAny_pure (wpAny_pure ?_)
  refine thn (hst.run pins s1 σ H1 (fun o H4 => o = some (-1) ∧ H4 = H1) I1 ⟨1, rfl, -1, rfl, rfl, rfl⟩) fun vs s4 ⟨o, H4, I4, ps, eo, e4⟩ => ?_
  subst eo e4
  have I5 : L2.Inv X pins σ H4 { s4 with heap := s4.heap.push { cls := .type "slice", data := .fields #[.none, .none, vs] } } := I4.kept (t' := s4.toks) fun b ob q => Heap.get?_push_of_some _ q
  rcases q1 with ⟨a, xs, ex, hx, q⟩ | ⟨a, xs, ex, hx, q⟩
  · subst ex
    cases r1
    obtain ⟨its, r, ht, hz⟩ := I5.list hx
    have hlen := r.length
    refine tail_any (ops := [.ref a, .ref s4.heap.objs.size]) ht.isList.typeIs (PySem.slot_list_getitem.lookup) ?_ (by with_unfolding_all rfl)
    refine wpAny_getItem_list_slice ht.isList (Heap.IsSliceOf.new _ .none .none vs) .none .none ps (by decide) ?_ (by rw [List.size_toArray]; omega)
    rw [PySem.W.krv_pick]
    refine ⟨.ref _, _, I5.laid (t' := s4.toks) (o := .lst xs.reverse) (fun b ob q => Heap.get?_push_of_some _ q) (Nat.le_refl _) ?_, rfl, q _ (I5.hok.fresh (Nat.le_refl _))⟩
    exact ⟨by rw [List.length_reverse]; exact hz, _, 0, r.reverse, Heap.get?_push_size _ rfl⟩
  · subst ex
    cases r1
    obtain ⟨its, r, ht, hz⟩ := I5.tuple hx
    have hlen := r.length
    refine tail_any (ops := [.ref a, .ref s4.heap.objs.size]) ht.typeIs (PyProof.Rows.slot_tuple_getitem.lookup) ?_ (by with_unfolding_all rfl)
    refine getItem_tuple_back ht (Heap.IsSliceOf.new _ .none .none vs) ps ?_ (by omega)
    refine ⟨.ref _, _, I5.laid (t' := s4.toks) (o := .tup xs.reverse) (fun b ob q => Heap.get?_push_of_some _ q) (Nat.le_refl _) ?_, rfl, q _ (I5.hok.fresh (Nat.le_refl _))⟩
    exact ⟨by rw [List.length_reverse]; exact hz, _, r.reverse, IsTup.new _ _⟩
theorem ok_rev {K : PySem.W.Frag} : Op1 K (rRevA K) fRev := by
  intro F H x d rv Q s px hf k
  cases d <;> simp only [fRev] at hf <;> try (cases hf; done)
  · cases hf
    obtain ⟨a, vs, e1, q1, r1⟩ := px.lst s
    exact .inl ⟨a, vs, e1, .inl q1, fun p hp => k _ _ _ (.lst s hp r1.reverse)⟩
  · cases hf
    obtain ⟨a, vs, e1, q1, r1⟩ := px.tup
    exact .inr ⟨a, vs, e1, s.sqT q1, fun p hp => k _ _ _ (.tup s hp r1.reverse)⟩
theorem se_back {e : Expr} {m : M Hd} {k : Nat} {p1 p2 p3 pos : Pos} (hK : w.K = X.K) (he : PE X e (tK w m)) : PE X (.Subscript e (.Slice none none (some (.UnaryOp .USub (.Constant (.int 1) k p1) p2)) p3) pos) (tK w (mUn fRev m)) :=
  PEimp (pe_back he) fun _ _ _ h => op1_in (hK ▸ ok_rev) h

/-! ### shared values -/
theorem StpE.freeze {K : PySem.W.Frag} {F F1 H H1 : Hp} {ρ ρ1 : Ev} {σ : L2.St} {a : Addr} {vs : List V} {xs : List D} (S : St K F ρ σ H) (p : StpE K F ρ σ H F1 ρ1 H1) (h0 : NO H a) (h1 : H1 a = some (.lst vs)) (hF : F1 a = none) (hr : RpAll K F1 vs xs) :
    StpE K F ρ σ H (upd F1 a (.lst vs)) ρ1 H1 := by
  have sF := sub_upd (o := HO.lst vs) hF
  have nm : ∀ {b : Addr}, Mu ρ1 σ b → b ≠ a := fun {b} m z => by
    obtain ⟨⟨us, e⟩, _⟩ := S.mu_some (p.mu m)
    rw [z] at e; exact h0.lst e
  refine ⟨⟨p.st.len, fun b o e => ?_, fun i s hs => ?_, p.st.inj, p.st.tb, fun b o e => ?_⟩, p.le.trans sF, p.keep, p.dom, fun b o e => ?_, p.sl⟩
  · by_cases hb : b = a
    · subst hb; rw [upd_same] at e; cases e; exact h1
    · rw [upd_ne hb] at e; exact p.st.le _ _ e
  · obtain ⟨v, e, ok⟩ := p.st.slot i s hs
    refine ⟨v, e, ?_⟩
    cases s with
    | frz d => exact Rp.mono sF _ _ ok
    | obj d => exact ok
    | own ys =>
      obtain ⟨b, us, e1, e2, e3, e4⟩ := ok
      subst e1
      exact ⟨b, us, rfl, e2, by rw [upd_ne (nm ⟨i, _, hs, rfl, e⟩)]; exact e3, RpAll.mono sF _ _ e4⟩
    | io ys =>
      obtain ⟨b, us, e1, e2, e3, e4⟩ := ok
      subst e1
      exact ⟨b, us, rfl, e2, by rw [upd_ne (nm ⟨i, _, hs, rfl, e⟩)]; exact e3, RpAll.mono sF _ _ e4⟩
  · by_cases hb : b = a
    · subst hb; rw [upd_same] at e; cases e; exact nt_lst
    · rw [upd_ne hb] at e; exact p.st.nt _ _ e
  · by_cases hb : b = a
    · subst hb; exact .inr (.inl h0)
    · rw [upd_ne hb] at e; exact p.new _ _ e
theorem set_get {l : Ev} {i j : Nat} {x : Option Sl} {s : Sl} (h : (l.set i x)[j]? = some (some s)) : (j = i ∧ x = some s) ∨ (j ≠ i ∧ l[j]? = some (some s)) := by
  by_cases hj : i = j
  · subst hj
    by_cases hl : i < l.length
    · rw [List.getElem?_set_self hl] at h
      exact .inl ⟨rfl, Option.some.inj h⟩
    · rw [List.getElem?_eq_none (by simpa using hl)] at h; cases h
  · rw [List.getElem?_set_ne hj] at h
    exact .inr ⟨fun z => hj z.symm, h⟩
theorem StpE.share {K : PySem.W.Frag} {F H : Hp} {ρ : Ev} {σ : L2.St} {i : Nat} {xs : List D} (S : St K F ρ σ H) (hi : ρ[i]? = some (some (.own xs))) :
    ∃ a F', σ[i]? = some (some (.ref a)) ∧ StpE K F ρ σ H F' (ρ.set i (some (.frz (.list xs)))) H ∧ Rp K F' (.ref a) (.list xs) := by
  obtain ⟨v, ev, a, vs, e1, e2, e3, e4⟩ := S.slot i _ hi
  subst e1
  have sF := sub_upd (o := HO.lst vs) e3
  have mui : Mu ρ σ a := ⟨i, _, hi, rfl, ev⟩
  have rp : Rp K (upd F a (.lst vs)) (.ref a) (.list xs) := .lst (.inl upd_same) (RpAll.mono sF _ _ e4)
  refine ⟨a, upd F a (.lst vs), ev, ⟨⟨by rw [List.length_set]; exact S.len, fun b o e => ?_, fun j s hs => ?_, fun j k s t b hj hk ms mt ej ek => ?_, S.tb, fun b o e => ?_⟩, sF, fun b o h _ _ => h, fun b h => h, fun b o e => ?_, fun j => ?_⟩, rp⟩
  · by_cases hb : b = a
    · subst hb; rw [upd_same] at e; cases e; exact e2
    · rw [upd_ne hb] at e; exact S.le _ _ e
  · rcases set_get hs with ⟨z, e⟩ | ⟨z, hs⟩
    · subst z; cases e
      exact ⟨.ref a, ev, rp⟩
    · obtain ⟨v, e, ok⟩ := S.slot j s hs
      refine ⟨v, e, ?_⟩
      have ne : ∀ {b : Addr}, s.mu = true → σ[j]? = some (some (.ref b)) → b ≠ a := fun {b} m ej z' => z (S.inj j i _ _ a hs hi m rfl (by rw [← z']; exact ej) ev)
      cases s with
      | frz d => exact Rp.mono sF _ _ ok
      | obj d => exact ok
      | own ys =>
        obtain ⟨b, us, q1, q2, q3, q4⟩ := ok
        subst q1
        exact ⟨b, us, rfl, q2, by rw [upd_ne (ne rfl e)]; exact q3, RpAll.mono sF _ _ q4⟩
      | io ys =>
        obtain ⟨b, us, q1, q2, q3, q4⟩ := ok
        subst q1
        exact ⟨b, us, rfl, q2, by rw [upd_ne (ne rfl e)]; exact q3, RpAll.mono sF _ _ q4⟩
  · rcases set_get hj with ⟨z, e⟩ | ⟨z, hj⟩
    · cases e; cases ms
    · rcases set_get hk with ⟨z2, e⟩ | ⟨z2, hk⟩
      · cases e; cases mt
      · exact S.inj j k s t b hj hk ms mt ej ek
  · by_cases hb : b = a
    · subst hb; rw [upd_same] at e; cases e; exact nt_lst
    · rw [upd_ne hb] at e; exact S.nt _ _ e
  · by_cases hb : b = a
    · subst hb; exact .inr (.inr mui)
    · rw [upd_ne hb] at e; exact .inl e
  · by_cases hj : j = i
    · subst hj
      rw [join_some.mpr hi, List.getElem?_set_self (List.getElem?_eq_some_iff.mp hi).1]
      exact .inr ⟨_, rfl⟩
    · rw [List.getElem?_set_ne (fun z => hj z.symm)]
      exact SlLe.refl _
theorem esc_in {m : M Hd} {σ : L2.St} {H : Hp} {Q : VK} (h : tK w (mEsc m) σ H Q) : tK w m σ H Q := by
  obtain ⟨F, ρ, S, h⟩ := h
  refine ⟨F, ρ, S, ?_⟩
  unfold mEsc at h
  cases e : m ρ with
  | bad => rw [e] at h; exact h
  | exc x ρ1 => rw [e] at h; exact h
  | ok k ρ1 =>
    rw [e] at h
    intro F1 H1 p v hv
    have h : Wp w F ρ σ H (esc k ρ1) fun h ρ' F' H' => ∀ v, HdOk w.K F' ρ' σ H H' v h → Q v H' := h
    cases k with
    | v r =>
      cases r with
      | fz d => exact h F1 H1 p v hv
      | fr xs =>
        obtain ⟨a, vs, rfl, h0, h1, hF, hr⟩ := hv
        exact h _ H1 (StpE.freeze S p h0 h1 hF hr) (.ref a) (.lst (.inl upd_same) (RpAll.mono (sub_upd hF) _ _ hr))
    | s i =>
      obtain ⟨ei, s, hs⟩ := hv
      unfold esc at h
      simp only [join_some.mpr hs] at h
      cases s with
      | frz d =>
        obtain ⟨v', ev', ok⟩ := p.st.slot i _ hs
        rw [ei] at ev'; cases ev'
        exact h F1 H1 p v ok
      | own xs =>
        obtain ⟨a, F', ea, q, rp⟩ := StpE.share p.st hs
        rw [ei] at ea; cases ea
        exact h F' H1 (p.trans S q) (.ref a) rp
      | io xs => exact h.elim
      | obj u => exact h.elim
theorem se_esc {e : Expr} {m : M Hd} (h : PE X e (tK w m)) : PE X e (tK w (mEsc m)) := PEimp h fun _ _ _ q => esc_in q
theorem esr_in {m : M Hd} {σ : L2.St} {H : Hp} {Q : VK} (h : tK w (mEsr m) σ H Q) : tK w m σ H Q := by
  obtain ⟨F, ρ, S, h⟩ := h
  refine ⟨F, ρ, S, ?_⟩
  unfold mEsr at h
  cases e : m ρ with
  | bad => rw [e] at h; exact h
  | exc x ρ1 => rw [e] at h; exact h
  | ok k ρ1 =>
    rw [e] at h
    intro F1 H1 p v hv
    have h : Wp w F ρ σ H (esr k ρ1) fun h ρ' F' H' => ∀ v, HdOk w.K F' ρ' σ H H' v h → Q v H' := h
    cases k with
    | v r => exact h F1 H1 p v hv
    | s i =>
      obtain ⟨ei, s, hs⟩ := hv
      have h : Wp w F ρ σ H (esc (.s i) ρ1) fun h ρ' F' H' => ∀ v, HdOk w.K F' ρ' σ H H' v h → Q v H' := h
      unfold esc at h
      simp only [join_some.mpr hs] at h
      cases s with
      | frz d =>
        obtain ⟨v', ev', ok⟩ := p.st.slot i _ hs
        rw [ei] at ev'; cases ev'
        exact h F1 H1 p v ok
      | own xs =>
        obtain ⟨a, F', ea, q, rp⟩ := StpE.share p.st hs
        rw [ei] at ea; cases ea
        exact h F' H1 (p.trans S q) (.ref a) rp
      | io xs => exact h.elim
      | obj u => exact h.elim
theorem se_esr {e : Expr} {m : M Hd} (h : PE X e (tK w m)) : PE X e (tK w (mEsr m)) := PEimp h fun _ _ _ q => esr_in q
end
end Pu
set_option Elab.async false
set_option linter.all false
set_option autoImplicit false
set_option maxRecDepth 100000
/-! Pt1: sorted(a tuple). -/
namespace PtW
open PySem PySem.Calls PyProof.Rows PySem.W
section
variable {prog : Program} {w : World} {A : Around} {E : Value → Shared → Prop} {s : Shared}
theorem collect_tup {l : Addr} {vs : List Value} {Q : List Value → Shared → Prop} (hl : s.heap.IsTuple l vs.toArray)
    (h : Q vs { s with heap := (s.heap.push (seqObj "list" #[] 0)).update s.heap.objs.size (Obj.mapSeq (· ++ vs.toArray)) }) (hsz : vs.length ≤ sizeLine) :
    wpAny (model prog w) A (collect (.ref l)) Q E s := by
  obtain ⟨o, ho, hc, n, hd⟩ := id hl
  unfold collect
  refine wpAny_bind (wpAny_runValue (codeAny_builtin entry_proto_collect' ?_))
  show wpAny _ _ (do again (.builtin "list.__iadd__" ⟨[← newList [], .ref l], []⟩)) _ _ s
  refine wpAny_bind (wpAny_newList (wpAny_pure ⟨Code.quiet_builtin _ (by decide +kernel), codeAny_builtin entry_list_iadd' ?_⟩))
  show wpAny _ _ (Builtin.List.listExtendWith (.ref s.heap.objs.size) (.ref l) (.ref s.heap.objs.size)) _ _ { s with heap := s.heap.push (seqObj "list" #[] 0) }
  unfold Builtin.List.listExtendWith
  have ho' : (s.heap.push (seqObj "list" #[] 0)).get? l = some o := Heap.get?_push_of_some _ ho
  refine wpAny_bind (wpAny_typeOf (T := "tuple") ⟨o, ho', hc⟩ ?_)
  have ht : (Value.type "tuple" == Value.type "tuple") = true := by rfl
  rw [if_pos (by rw [ht]; simp)]
  refine wpAny_bind (listItems_at ho' hd ?_)
  refine wpAny_bind (listItems_at (xs := #[]) (n := 0) (Heap.get?_push_size _ rfl) rfl ?_)
  rw [if_neg (by simp)]
  refine wpAny_bind (listUpdate_at (xs := #[]) (n := 0) (Heap.get?_push_size _ rfl) rfl ?_ (Nat.zero_le _) (by show (#[] ++ vs.toArray).size ≤ sizeLine + 1; simp only [Array.size_append, List.size_toArray, List.length_nil]; omega))
  refine wpAny_pure ?_
  show wpAny (model prog w) A (do
      let o ← load s.heap.objs.size
      match o.data with
      | .seq xs _ => pure xs.toList
      | _ => unsupported "internal:collect") Q E { s with heap := (s.heap.push (seqObj "list" #[] 0)).update s.heap.objs.size (Obj.mapSeq (· ++ vs.toArray)) }
  refine wpAny_bind (wpAny_load (get?_update_seq (Heap.get?_push_size _ rfl) _) ?_)
  show wpAny _ _ (pure ((#[] : Array Value) ++ vs.toArray).toList) Q E _
  rw [show ((#[] : Array Value) ++ vs.toArray).toList = vs by simp]
  exact wpAny_pure h
theorem sorted_of_sortT {l : Addr} {vs : List Value} {kw : List (Str × Value)} {Q : Value → Shared → Prop} (hl : s.heap.IsTuple l vs.toArray) (hL : vs.length ≤ sizeLine) (ha1 : argsOk "sorted" ⟨[.ref l], kw⟩) (ha2 : ∀ x, argsOk "list.sort" ⟨[.ref x], kw⟩)
    (body : ∀ E' : Value → Shared → Prop, wpAny (model prog w) A.in1.in1 (Builtin.«list.sort» ⟨[.ref (s.heap.objs.size + 1)], kw⟩) (fun f s' => f = .done (.ret .none) ∧ Q (.ref (s.heap.objs.size + 1)) s') E' { s with heap := copyHeap s.heap vs }) :
    wpAny (model prog w) A (call (.builtin "sorted") [.ref l] kw) Q E s := by
  refine call_function_entry_kw kind_sorted plain_sorted entry_sorted ha1 ?_
  unfold Builtin.«sorted»
  refine wpAny_bind (m := checkCount "sorted" 1 1 _) (wpAny_pure ?_)
  refine wpAny_bind (collect_tup hl ?_ hL)
  refine wpAny_bind (wpAny_newList ?_ hL)
  have hsz : ((s.heap.push (seqObj "list" #[] 0)).update s.heap.objs.size (Obj.mapSeq (· ++ vs.toArray))).objs.size = s.heap.objs.size + 1 := by
    rw [Heap.size_update, size_push']
  show wpAny _ _ _ _ _ { s with heap := copyHeap s.heap vs }
  rw [hsz]
  refine wpAny_bind (wpAny_holding (wpAny_call_entry_kw slot_list_sort ⟨_, copyHeap_at s.heap vs, rfl⟩ entry_list_sort ?body (ha2 _)))
  case body =>
    show wpAny (model prog w) A.in1.in1 (Builtin.«list.sort» ⟨[.ref (s.heap.objs.size + 1)], kw⟩) _ _ _
    refine wpAny_mono (body _) (fun f s' hf => ?_) fun _ _ e => e
    obtain ⟨rfl, hq⟩ := hf
    exact ⟨_, rfl, wpAny_pure ⟨_, rfl, hq⟩⟩
theorem sorted_dataT {β : Type} {vs : List Value} {bs : List β} {enc : β → PyData} {R : Value → β → Prop} {l : Addr} {Q : Value → Shared → Prop} (hl : s.heap.IsTuple l vs.toArray) (e : EachIs R vs bs) (er : EachIs (fun v b => ∃ as, Reads s.heap v (enc b) as) vs bs) (hal : AllAlike (bs.map enc)) (hk : Sortable (bs.map enc)) (hL : bs.length ≤ sizeLine)
    (hu : ∀ b, b ∈ bs → A.units + 2 + (enc b).depth < cLine) (h : ∀ out, out.length = bs.length → EachIs R out (bs.mergeSort (dataLe false enc)) → Q (.ref (s.heap.objs.size + 1)) { s with heap := sortedAll s.heap vs (List.toArray out) }) :
    wpAny (model prog w) A (call (.builtin "sorted") [.ref l]) Q E s := by
  have er' : EachIs (fun v b => ∃ as, Reads (sortingHeap (copyHeap s.heap vs) (s.heap.objs.size + 1) vs) v (enc b) as) vs bs := er.mono fun _ _ ⟨as, r⟩ => ⟨as, PyProof.Rows.Reads.keeps (fun _ _ => sorting_copy_old) r⟩
  refine sorted_of_sortT hl (by rw [e.length]; exact hL) (args_sorted1 _) (fun _ => args_list_sort _) fun _ => list_sort_vals (s := { s with heap := copyHeap s.heap vs }) (copyHeap_at s.heap vs)
    (SortsAt.data (s := { s with heap := sortingHeap (copyHeap s.heap vs) (s.heap.objs.size + 1) vs }) (each_map (R := fun v d => ∃ as, Reads (sortingHeap (copyHeap s.heap vs) (s.heap.objs.size + 1) vs) v d as) enc er') hal hk (bound_map hu)) (by rw [e.length]; exact hL)
    ⟨rfl, h _ (by rw [sortVals_length false rfl]; exact e.length) (sortVals_data false e er' hal)⟩
end
end PtW
set_option Elab.async false
set_option linter.all false
set_option maxRecDepth 100000
set_option maxHeartbeats 1000000
/-! Pu5: the pure layer: displays, calls of built-ins, sorting. -/
namespace Pu
open PySem L2 PyProof.Rows
/-! ### displays -/
def fzs : List Hd → Option (List D)
  | [] => some []
  | .v (.fz d) :: hs => (fzs hs).map (d :: ·)
  | _ :: _ => none
theorem HdsOk.fzs {K : PySem.W.Frag} {F' H H' : Hp} {ρ' : Ev} {σ : L2.St} : ∀ {vs : List V} {hs : List Hd} {ds : List D}, HdsOk K F' ρ' σ H H' vs hs → fzs hs = some ds → RpAll K F' vs ds
  | [], [], _, _, e => by cases e; exact .nil
  | v :: vs, .v (.fz d) :: hs, ds, ⟨a, b, _⟩, e => by
    unfold Pu.fzs at e
    cases e2 : Pu.fzs hs with
    | none => rw [e2] at e; cases e
    | some es =>
      rw [e2] at e
      cases e
      exact .cons a (HdsOk.fzs b e2)
  | _ :: _, .v (.fr _) :: _, _, _, e => by cases e
  | _ :: _, .s _ :: _, _, _, e => by cases e
  | [], _ :: _, _, h, _ => h.elim
  | _ :: _, [], _, h, _ => h.elim
def primZ (f : List D → Option RV) (hs : List Hd) : M Hd := fun ρ => match fzs hs with
  | some ds => (match f ds with
    | some r => .ok (.v r) ρ
    | none => .bad)
  | none => .bad
def mDisp (f : List D → Option RV) (ms : List (M Hd)) : M Hd := fun ρ => (mArgs ms ρ).bind (primZ f)
def fTup (ds : List D) : Option RV := if ds.length ≤ lim then some (.fz (.tuple ds)) else none
def fLst (ds : List D) : Option RV := if ds.length ≤ lim then some (.fr ds) else none
def mTup (ms : List (M Hd)) : M Hd := mDisp fTup ms
def mLst (ms : List (M Hd)) : M Hd := mDisp fLst ms
section
variable {w : Wi} {X : Cx}
theorem se_tup {es : List Expr} {k : Nat} {pos : Pos} {ms : List (M Hd)} (ha : PA X es (tA w (mArgs ms))) : PE X (.Tuple es k pos) (tK w (mTup ms)) := by
  refine PEimp (pe_tup ha) fun σ H Q ⟨F, ρ, S, h⟩ => ⟨F, ρ, S, (Wp.bind S h).mono fun hs ρ1 F1 H1 ⟨p, q⟩ vs hv => ?_⟩
  unfold primZ fTup at q
  split at q
  · rename_i ds ed
    have r := hv.fzs ed
    split at q
    · rename_i rv ef
      split at ef
      · rename_i hz
        cases ef
        exact ⟨lim_le (by rw [r.length]; exact hz), fun a ha => q.prim S p (.tup p.st.le ha r)⟩
      · cases ef
    · exact q.elim
  · exact q.elim
theorem se_lst {es : List Expr} {pos : Pos} {ms : List (M Hd)} (ha : PA X es (tA w (mArgs ms))) : PE X (.List es pos) (tK w (mLst ms)) := by
  refine PEimp (pe_lst ha) fun σ H Q ⟨F, ρ, S, h⟩ => ⟨F, ρ, S, (Wp.bind S h).mono fun hs ρ1 F1 H1 ⟨p, q⟩ vs hv => ?_⟩
  unfold primZ fLst at q
  split at q
  · rename_i ds ed
    have r := hv.fzs ed
    split at q
    · rename_i rv ef
      split at ef
      · rename_i hz
        cases ef
        exact ⟨lim_le (by rw [r.length]; exact hz), fun a ha => q.prim S p (.lst p.st.le ha r)⟩
      · cases ef
    · exact q.elim
  · exact q.elim

/-! ### a built-in called with operands -/
theorem se_callB {r : List V → Hp → VK → Prop} {f : List D → Option RV} {id : String} {x : Str} {p pos : Pos} {e : Expr} {es : List Expr} {ms : List (M Hd)} (hc : CallR X (.builtin id) r) (h2 : OpN w.K r f) (hg : Gl X x) (hm : X.mg x = none) (hv : bootBuiltins x = some (.builtin id))
    (ha : PA X (e :: es) (tA w (mArgs ms))) (hn : x ≠ "__name__") (hdb : (x == ("__debug__" : Str)) = false) (he : starEach (e :: es) X.env = (false, eval e X.env) :: starEach es X.env) (hpl : (backTo pos (starEach es X.env)).any (·.1) = false) :
    PE X (.Call (.Name x p) (e :: es) [] pos) (tK w (mPrim f ms)) := PEimp (pe_callB hc hg hm hv ha hn hdb he hpl) fun _ _ _ h => opN_in h2 h
theorem se_callTy {r : List V → Hp → VK → Prop} {f : List D → Option RV} {id : String} {x : Str} {p pos : Pos} {e : Expr} {es : List Expr} {ms : List (M Hd)} (hc : CallR X (.type id) r) (h2 : OpN w.K r f) (hg : Gl X x) (hm : X.mg x = none) (hv : bootBuiltins x = some (.type id))
    (ha : PA X (e :: es) (tA w (mArgs ms))) (hn : x ≠ "__name__") (hdb : (x == ("__debug__" : Str)) = false) (he : starEach (e :: es) X.env = (false, eval e X.env) :: starEach es X.env) (hpl : (backTo pos (starEach es X.env)).any (·.1) = false) :
    PE X (.Call (.Name x p) (e :: es) [] pos) (tK w (mPrim f ms)) := PEimp (pe_callTy hc hg hm hv ha hn hdb he hpl) fun _ _ _ h => opN_in h2 h
end
theorem PkAll.one {K : PySem.W.Frag} {F H : Hp} {vs : List V} {d : D} (h : PkAll K F H vs [d]) : ∃ v, vs = [v] ∧ Pk K F H v d := by
  match vs, h with
  | [v], ⟨a, _⟩ => exact ⟨v, rfl, a⟩
theorem PkAll.two {K : PySem.W.Frag} {F H : Hp} {vs : List V} {d e : D} (h : PkAll K F H vs [d, e]) : ∃ v u, vs = [v, u] ∧ Pk K F H v d ∧ Pk K F H u e := by
  match vs, h with
  | [v, u], ⟨a, b, _⟩ => exact ⟨v, u, rfl, a, b⟩
def fLen : List D → Option RV
  | [.list xs] => some (.fz (.int xs.length))
  | [.tuple xs] => some (.fz (.int xs.length))
  | [.str x] => if x.length ≤ lim then some (.fz (.int x.length)) else none
  | _ => none
def rLenA (K : PySem.W.Frag) : List V → Hp → VK → Prop := fun xs H Q => ∃ x n, xs = [x] ∧ LenV K x H n ∧ Q (.int n) H
theorem ok_len {K : PySem.W.Frag} : OpN K (rLenA K) fLen := by
  intro F H vs ds rv Q s pv hf k
  unfold fLen at hf
  split at hf
  · rename_i xs
    cases hf
    obtain ⟨v, ev, pw⟩ := pv.one
    subst ev
    obtain ⟨a, us, e1, q1, r1⟩ := pw.lst s
    subst e1
    exact ⟨_, us.length, rfl, .inl ⟨us, .inl q1, rfl⟩, by rw [r1.length]; exact k _ _ _ (.val s (.int _))⟩
  · rename_i xs
    cases hf
    obtain ⟨v, ev, pw⟩ := pv.one
    subst ev
    obtain ⟨a, us, e1, q1, r1⟩ := pw.tup
    subst e1
    exact ⟨_, us.length, rfl, .inr ⟨us, s.sqT q1, rfl⟩, by rw [r1.length]; exact k _ _ _ (.val s (.int _))⟩
  · split at hf
    · rename_i hz
      cases hf
      obtain ⟨v, ev, pw⟩ := pv.one
      subst ev
      have e := pw.str
      subst e
      exact ⟨_, _, rfl, ⟨lim_le hz, rfl⟩, k _ _ _ (.val s (.int _))⟩
    · cases hf
  · cases hf
def fList : List D → Option RV
  | [.list xs] => some (.fr xs)
  | [.tuple xs] => some (.fr xs)
  | _ => none
def rListA (K : PySem.W.Frag) : List V → Hp → VK → Prop := fun xs H Q => ∃ p ys, xs = [.ref p] ∧ (SqL K H p ys ∨ SqT K H p ys) ∧ ∀ l, H l = none → Q (.ref l) (upd H l (.lst ys))
theorem ok_list {K : PySem.W.Frag} : OpN K (rListA K) fList := by
  intro F H vs ds rv Q s pv hf k
  unfold fList at hf
  split at hf
  · cases hf
    obtain ⟨v, ev, pw⟩ := pv.one
    subst ev
    obtain ⟨a, us, e1, q1, r1⟩ := pw.lst s
    subst e1
    exact ⟨_, us, rfl, .inl (.inl q1), fun p hp => k _ _ _ (.lst s hp r1)⟩
  · cases hf
    obtain ⟨v, ev, pw⟩ := pv.one
    subst ev
    obtain ⟨a, us, e1, q1, r1⟩ := pw.tup
    subst e1
    exact ⟨_, us, rfl, .inr (s.sqT q1), fun p hp => k _ _ _ (.lst s hp r1)⟩
  · cases hf
def fTuple : List D → Option RV
  | [.list xs] => some (.fz (.tuple xs))
  | [.tuple xs] => some (.fz (.tuple xs))
  | _ => none
def rTupleA (K : PySem.W.Frag) : List V → Hp → VK → Prop := fun xs H Q => ∃ p ys, xs = [.ref p] ∧ ((SqL K H p ys ∧ ∀ l, H l = none → Q (.ref l) (upd H l (.tup ys))) ∨ (SqT K H p ys ∧ Q (.ref p) H))
theorem ok_tuple {K : PySem.W.Frag} : OpN K (rTupleA K) fTuple := by
  intro F H vs ds rv Q s pv hf k
  unfold fTuple at hf
  split at hf
  · cases hf
    obtain ⟨v, ev, pw⟩ := pv.one
    subst ev
    obtain ⟨a, us, e1, q1, r1⟩ := pw.lst s
    subst e1
    exact ⟨_, us, rfl, .inl ⟨.inl q1, fun p hp => k _ _ _ (.tup s hp r1)⟩⟩
  · cases hf
    obtain ⟨v, ev, pw⟩ := pv.one
    subst ev
    obtain ⟨a, us, e1, q1, r1⟩ := pw.tup
    subst e1
    exact ⟨_, us, rfl, .inr ⟨s.sqT q1, k _ _ _ (.val s (.tup q1 r1))⟩⟩
  · cases hf
def asBools : List D → Option (List Bool)
  | [] => some []
  | .bool b :: ds => (asBools ds).map (b :: ·)
  | _ => none
theorem asBools_map : ∀ {ds : List D} {bs : List Bool}, asBools ds = some bs → ds = bs.map PyData.bool
  | [], _, e => by cases e; rfl
  | .bool b :: ds, bs, e => by
    unfold asBools at e
    cases e2 : asBools ds with
    | none => rw [e2] at e; cases e
    | some cs => rw [e2] at e; cases e; rw [asBools_map e2]; rfl
  | .none :: _, _, e => by cases e
  | .int _ :: _, _, e => by cases e
  | .str _ :: _, _, e => by cases e
  | .list _ :: _, _, e => by cases e
  | .tuple _ :: _, _, e => by cases e
  | .dict _ :: _, _, e => by cases e
theorem RpAll.bools {K : PySem.W.Frag} {F : Hp} : ∀ {bs : List Bool} {vs : List V}, RpAll K F vs (bs.map PyData.bool) → vs = bs.map V.bl
  | [], _, h => by cases h; rfl
  | b :: bs, _, h => by
    cases h with
    | cons a c => cases a; rw [RpAll.bools c]; rfl
theorem RpAll.intsV {K : PySem.W.Frag} {F : Hp} : ∀ {bs : List Int} {vs : List V}, RpAll K F vs (bs.map PyData.int) → vs = bs.map V.int
  | [], _, h => by cases h; rfl
  | b :: bs, _, h => by
    cases h with
    | cons a c => cases a; rw [RpAll.intsV c]; rfl
def asInts : List D → Option (List Int)
  | [] => some []
  | .int b :: ds => (asInts ds).map (b :: ·)
  | _ => none
theorem asInts_map : ∀ {ds : List D} {bs : List Int}, asInts ds = some bs → ds = bs.map PyData.int
  | [], _, e => by cases e; rfl
  | .int b :: ds, bs, e => by
    unfold asInts at e
    cases e2 : asInts ds with
    | none => rw [e2] at e; cases e
    | some cs => rw [e2] at e; cases e; rw [asInts_map e2]; rfl
  | .none :: _, _, e => by cases e
  | .bool _ :: _, _, e => by cases e
  | .str _ :: _, _, e => by cases e
  | .list _ :: _, _, e => by cases e
  | .tuple _ :: _, _, e => by cases e
  | .dict _ :: _, _, e => by cases e
theorem asInts_of (bs : List Int) : asInts (bs.map PyData.int) = some bs := by
  induction bs with
  | nil => rfl
  | cons b bs ih => simp only [List.map_cons, asInts, ih, Option.map_some]
theorem asBools_of (bs : List Bool) : asBools (bs.map PyData.bool) = some bs := by
  induction bs with
  | nil => rfl
  | cons b bs ih => simp only [List.map_cons, asBools, ih, Option.map_some]
def fAll : List D → Option RV
  | [.list xs] => (asBools xs).map fun bs => .fz (.bool (bs.all id))
  | _ => none
def fAny : List D → Option RV
  | [.list xs] => (asBools xs).map fun bs => .fz (.bool (bs.any id))
  | _ => none
theorem ok_all {K : PySem.W.Frag} : OpN K (rAll K) fAll := by
  intro F H vs ds rv Q s pv hf k
  unfold fAll at hf
  split at hf
  · rename_i xs
    cases e : asBools xs with
    | none => rw [e] at hf; cases hf
    | some bs =>
      rw [e] at hf
      cases hf
      obtain ⟨v, ev, pw⟩ := pv.one
      subst ev
      obtain ⟨a, us, e1, q1, r1⟩ := pw.lst s
      subst e1
      rw [asBools_map e] at r1
      rw [r1.bools] at q1
      exact ⟨a, bs, rfl, .inl q1, k _ _ _ (.val s (.bl _))⟩
  · cases hf
theorem ok_any {K : PySem.W.Frag} : OpN K (rAny K) fAny := by
  intro F H vs ds rv Q s pv hf k
  unfold fAny at hf
  split at hf
  · rename_i xs
    cases e : asBools xs with
    | none => rw [e] at hf; cases hf
    | some bs =>
      rw [e] at hf
      cases hf
      obtain ⟨v, ev, pw⟩ := pv.one
      subst ev
      obtain ⟨a, us, e1, q1, r1⟩ := pw.lst s
      subst e1
      rw [asBools_map e] at r1
      rw [r1.bools] at q1
      exact ⟨a, bs, rfl, .inl q1, k _ _ _ (.val s (.bl _))⟩
  · cases hf
def fSum : List D → Option RV
  | [.list xs] => (asInts xs).map fun bs => .fz (.int bs.sum)
  | _ => none
theorem ok_sum {K : PySem.W.Frag} : OpN K (rSum K) fSum := by
  intro F H vs ds rv Q s pv hf k
  unfold fSum at hf
  split at hf
  · rename_i xs
    cases e : asInts xs with
    | none => rw [e] at hf; cases hf
    | some bs =>
      rw [e] at hf
      cases hf
      obtain ⟨v, ev, pw⟩ := pv.one
      subst ev
      obtain ⟨a, us, e1, q1, r1⟩ := pw.lst s
      subst e1
      rw [asInts_map e] at r1
      rw [r1.intsV] at q1
      exact ⟨a, bs, rfl, .inl q1, k _ _ _ (.val s (.int _))⟩
  · cases hf
def maxL (a : Int) (l : List Int) : Int := l.foldl (fun m y => if m < y then y else m) a
def minL (a : Int) (l : List Int) : Int := l.foldl (fun m y => if y < m then y else m) a
theorem maxL_spec : ∀ (l : List Int) (a : Int), (maxL a l = a ∨ maxL a l ∈ l) ∧ a ≤ maxL a l ∧ ∀ y ∈ l, y ≤ maxL a l
  | [], a => ⟨.inl rfl, Int.le_refl _, fun _ h => nomatch h⟩
  | b :: l, a => by
    have e : maxL a (b :: l) = maxL (if a < b then b else a) l := rfl
    rw [e]
    obtain ⟨h1, h2, h3⟩ := maxL_spec l (if a < b then b else a)
    refine ⟨?_, ?_, fun y hy => ?_⟩
    · rcases h1 with h1 | h1
      · rw [h1]
        split
        · exact .inr List.mem_cons_self
        · exact .inl rfl
      · exact .inr (List.mem_cons_of_mem _ h1)
    · split at h2 <;> rename_i c <;> simp only [c, if_true, if_false] <;> omega
    · rcases List.mem_cons.mp hy with rfl | hy
      · split at h2 <;> rename_i c <;> simp only [c, if_true, if_false] <;> omega
      · exact h3 y hy
theorem minL_spec : ∀ (l : List Int) (a : Int), (minL a l = a ∨ minL a l ∈ l) ∧ minL a l ≤ a ∧ ∀ y ∈ l, minL a l ≤ y
  | [], a => ⟨.inl rfl, Int.le_refl _, fun _ h => nomatch h⟩
  | b :: l, a => by
    have e : minL a (b :: l) = minL (if b < a then b else a) l := rfl
    rw [e]
    obtain ⟨h1, h2, h3⟩ := minL_spec l (if b < a then b else a)
    refine ⟨?_, ?_, fun y hy => ?_⟩
    · rcases h1 with h1 | h1
      · rw [h1]
        split
        · exact .inr List.mem_cons_self
        · exact .inl rfl
      · exact .inr (List.mem_cons_of_mem _ h1)
    · split at h2 <;> rename_i c <;> simp only [c, if_true, if_false] <;> omega
    · rcases List.mem_cons.mp hy with rfl | hy
      · split at h2 <;> rename_i c <;> simp only [c, if_true, if_false] <;> omega
      · exact h3 y hy
def fMax : List D → Option RV
  | [.list xs] => (match asInts xs with
    | some (a :: l) => some (.fz (.int (maxL a l)))
    | _ => none)
  | [.int i, .int j] => some (.fz (.int (if j > i then j else i)))
  | _ => none
def fMin : List D → Option RV
  | [.list xs] => (match asInts xs with
    | some (a :: l) => some (.fz (.int (minL a l)))
    | _ => none)
  | [.int i, .int j] => some (.fz (.int (if j < i then j else i)))
  | _ => none
def rMaxA (K : PySem.W.Frag) : List V → Hp → VK → Prop := fun xs H Q => rMax K xs H Q ∨ ∃ i j, xs = [.int i, .int j] ∧ Q (.int (if j > i then j else i)) H
def rMinA (K : PySem.W.Frag) : List V → Hp → VK → Prop := fun xs H Q => rMin K xs H Q ∨ ∃ i j, xs = [.int i, .int j] ∧ Q (.int (if j < i then j else i)) H
theorem max_one {m a : Int} {l : List Int} (h : m ∈ a :: l) (g : ∀ y, y ∈ a :: l → y ≤ m) : m = maxL a l := by
  obtain ⟨h1, h2, h3⟩ := maxL_spec l a
  have g1 : maxL a l ≤ m := g _ (by rcases h1 with h1 | h1; rw [h1]; exact List.mem_cons_self; exact List.mem_cons_of_mem _ h1)
  have g2 : m ≤ maxL a l := by
    rcases List.mem_cons.mp h with h | h
    · rw [h]; exact h2
    · exact h3 m h
  omega
theorem min_one {m a : Int} {l : List Int} (h : m ∈ a :: l) (g : ∀ y, y ∈ a :: l → m ≤ y) : m = minL a l := by
  obtain ⟨h1, h2, h3⟩ := minL_spec l a
  have g1 : m ≤ minL a l := g _ (by rcases h1 with h1 | h1; rw [h1]; exact List.mem_cons_self; exact List.mem_cons_of_mem _ h1)
  have g2 : minL a l ≤ m := by
    rcases List.mem_cons.mp h with h | h
    · rw [h]; exact h2
    · exact h3 m h
  omega
theorem ok_max {K : PySem.W.Frag} : OpN K (rMaxA K) fMax := by
  intro F H vs ds rv Q s pv hf k
  unfold fMax at hf
  split at hf
  · rename_i xs
    split at hf
    · rename_i b l e
      cases hf
      obtain ⟨v, ev, pw⟩ := pv.one
      subst ev
      obtain ⟨a, us, e1, q1, r1⟩ := pw.lst s
      subst e1
      rw [asInts_map e] at r1
      rw [r1.intsV] at q1
      refine .inl ⟨a, b :: l, rfl, .inl q1, by simp, fun m hm g => ?_⟩
      rw [max_one hm g]
      exact k _ _ _ (.val s (.int _))
    · cases hf
  · cases hf
    obtain ⟨v, u, ev, p1, p2⟩ := pv.two
    subst ev
    exact .inr ⟨_, _, by rw [p1.int, p2.int], k _ _ _ (.val s (.int _))⟩
  · cases hf
theorem ok_min {K : PySem.W.Frag} : OpN K (rMinA K) fMin := by
  intro F H vs ds rv Q s pv hf k
  unfold fMin at hf
  split at hf
  · rename_i xs
    split at hf
    · rename_i b l e
      cases hf
      obtain ⟨v, ev, pw⟩ := pv.one
      subst ev
      obtain ⟨a, us, e1, q1, r1⟩ := pw.lst s
      subst e1
      rw [asInts_map e] at r1
      rw [r1.intsV] at q1
      refine .inl ⟨a, b :: l, rfl, .inl q1, by simp, fun m hm g => ?_⟩
      rw [min_one hm g]
      exact k _ _ _ (.val s (.int _))
    · cases hf
  · cases hf
    obtain ⟨v, u, ev, p1, p2⟩ := pv.two
    subst ev
    exact .inr ⟨_, _, by rw [p1.int, p2.int], k _ _ _ (.val s (.int _))⟩
  · cases hf
def fAbs : List D → Option RV
  | [.int i] => some (.fz (.int (if i < 0 then -i else i)))
  | _ => none
theorem ok_abs {K : PySem.W.Frag} : OpN K (fun xs H Q => ∃ i, xs = [.int i] ∧ Q (.int (if i < 0 then -i else i)) H) fAbs := by
  intro F H vs ds rv Q s pv hf k
  unfold fAbs at hf
  split at hf
  · cases hf
    obtain ⟨v, ev, pw⟩ := pv.one
    subst ev
    exact ⟨_, by rw [pw.int], k _ _ _ (.val s (.int _))⟩
  · cases hf
def fInt : List D → Option RV
  | [.int i] => some (.fz (.int i))
  | [.bool b] => some (.fz (.int (if b then 1 else 0)))
  | [.str x] => if x.length ≤ 640 then (PySem.intText? x).map fun n => .fz (.int n) else none
  | _ => none
def fStr : List D → Option RV
  | [.int i] => if i.natAbs.log2 < 1920 then some (.fz (.str (toString i))) else none
  | _ => none
theorem ok_str {K : PySem.W.Frag} : OpN K (fun xs H Q => ∃ i, xs = [.int i] ∧ i.natAbs.log2 < 1920 ∧ Q (.str (toString i)) H) fStr := by
  intro F H vs ds rv Q s pv hf k
  unfold fStr at hf
  split at hf
  · split at hf
    · rename_i hz
      cases hf
      obtain ⟨v, ev, pw⟩ := pv.one
      subst ev
      exact ⟨_, by rw [pw.int], hz, k _ _ _ (.val s (.str _))⟩
    · cases hf
  · cases hf
def fOrdC : List D → Option RV
  | [.str x] => if x.length = 1 then some (.fz (.int (x.cps.getD 0 0 : Nat))) else none
  | _ => none
theorem ok_ordC {K : PySem.W.Frag} : OpN K (fun xs H Q => ∃ x, xs = [.str x] ∧ x.length = 1 ∧ Q (.int (x.cps.getD 0 0 : Nat)) H) fOrdC := by
  intro F H vs ds rv Q s pv hf k
  unfold fOrdC at hf
  split at hf
  · split at hf
    · rename_i hz
      cases hf
      obtain ⟨v, ev, pw⟩ := pv.one
      subst ev
      exact ⟨_, by rw [pw.str], hz, k _ _ _ (.val s (.int _))⟩
    · cases hf
  · cases hf

def rIntA : List V → Hp → VK → Prop := fun xs H Q => ((∃ i, xs = [.int i] ∧ Q (.int i) H) ∨ ∃ k, xs = [.bl k] ∧ Q (.int (if k then 1 else 0)) H) ∨ ∃ a n, xs = [.str a] ∧ PySem.intText? a = some n ∧ a.length ≤ 640 ∧ Q (.int n) H
theorem or_int {X : Cx} : CallR X (.type "int") rIntA := call_int1.or call_int_str
theorem ok_int {K : PySem.W.Frag} : OpN K rIntA fInt := by
  intro F H vs ds rv Q s pv hf k
  unfold fInt at hf
  split at hf
  · cases hf
    obtain ⟨v, ev, pw⟩ := pv.one
    subst ev
    exact .inl (.inl ⟨_, by rw [pw.int], k _ _ _ (.val s (.int _))⟩)
  · cases hf
    obtain ⟨v, ev, pw⟩ := pv.one
    subst ev
    exact .inl (.inr ⟨_, by rw [pw.bl], k _ _ _ (.val s (.int _))⟩)
  · split at hf
    · rename_i x hz
      cases e : PySem.intText? x with
      | none => rw [e] at hf; cases hf
      | some n =>
        rw [e] at hf
        cases hf
        obtain ⟨v, ev, pw⟩ := pv.one
        subst ev
        exact .inr ⟨x, n, by rw [pw.str], e, hz, k _ _ _ (.val s (.int _))⟩
    · cases hf
  · cases hf
/-! ### sorted -/
section
variable {α : Type}
def ins (le : α → α → Bool) (a : α) : List α → List α
  | [] => [a]
  | b :: l => if le a b then a :: b :: l else b :: ins le a l
def isort (le : α → α → Bool) : List α → List α
  | [] => []
  | a :: l => ins le a (isort le l)
variable {le : α → α → Bool}
theorem ins_mem {a x : α} : ∀ {l : List α}, x ∈ ins le a l ↔ x = a ∨ x ∈ l
  | [] => by simp [ins]
  | b :: l => by
    unfold ins
    split
    · simp
    · rw [List.mem_cons, ins_mem, List.mem_cons]
      constructor
      · rintro (h | h | h)
        · exact .inr (.inl h)
        · exact .inl h
        · exact .inr (.inr h)
      · rintro (h | h | h)
        · exact .inr (.inl h)
        · exact .inl h
        · exact .inr (.inr h)
theorem ins_sorted (T : PySem.W.TotalLe le) {a : α} : ∀ {l : List α}, l.Pairwise (fun a b => le a b = true) → (ins le a l).Pairwise (fun a b => le a b = true)
  | [], _ => by simp [ins]
  | b :: l, h => by
    have h1 : ∀ x, x ∈ l → le b x = true := fun x hx => List.rel_of_pairwise_cons h hx
    have h2 := List.Pairwise.of_cons h
    unfold ins
    split
    · rename_i c
      refine List.pairwise_cons.mpr ⟨fun x hx => ?_, h⟩
      rcases List.mem_cons.mp hx with e | hx
      · rw [e]; exact c
      · exact T.trans _ _ _ c (h1 x hx)
    · rename_i c
      refine List.pairwise_cons.mpr ⟨fun x hx => ?_, ins_sorted T h2⟩
      rcases ins_mem.mp hx with e | hx
      · rw [e]
        rcases T.total b a with q | q
        · exact q
        · exact absurd q c
      · exact h1 x hx
theorem isort_sorted (T : PySem.W.TotalLe le) : ∀ l : List α, (isort le l).Pairwise (fun a b => le a b = true)
  | [] => .nil
  | a :: l => ins_sorted T (isort_sorted T l)
theorem ins_filter (T : PySem.W.TotalLe le) (c a : α) : ∀ l : List α, (ins le a l).filter (PySem.W.sameRank le c) = (a :: l).filter (PySem.W.sameRank le c)
  | [] => rfl
  | b :: l => by
    unfold ins
    split
    · rfl
    · rename_i h
      have ih := ins_filter T c a l
      rw [List.filter_cons, ih]
      by_cases ha : PySem.W.sameRank le c a = true
      · by_cases hb : PySem.W.sameRank le c b = true
        · exfalso
          unfold PySem.W.sameRank at ha hb
          rw [Bool.and_eq_true] at ha hb
          exact h (T.trans _ _ _ ha.2 hb.1)
        · simp [List.filter_cons, ha, hb]
      · simp [List.filter_cons, ha]
theorem isort_filter (T : PySem.W.TotalLe le) (c : α) : ∀ l : List α, (isort le l).filter (PySem.W.sameRank le c) = l.filter (PySem.W.sameRank le c)
  | [] => rfl
  | a :: l => by
    have ih := isort_filter T c l
    show (ins le a (isort le l)).filter _ = _
    rw [ins_filter T, List.filter_cons, List.filter_cons, ih]
theorem isort_eq (T : PySem.W.TotalLe le) (l : List α) : isort le l = l.mergeSort le := PySem.W.sort_unique T (isort_sorted T l) fun c => isort_filter T c l
theorem isort_map {β : Type} (f : β → α) : ∀ l : List β, (isort (fun a b => le (f a) (f b)) l).map f = isort le (l.map f)
  | [] => rfl
  | a :: l => by
    have ih := isort_map f l
    have q : ∀ m : List β, (ins (fun a b => le (f a) (f b)) a m).map f = ins le (f a) (m.map f) := by
      intro m
      induction m with
      | nil => rfl
      | cons b m im =>
        unfold ins
        show _ = if le (f a) (f b) = true then _ else _
        split
        · rfl
        · rw [List.map_cons, im]
    show (ins _ a (isort _ l)).map f = ins le (f a) (isort le (l.map f))
    rw [q, ih]
theorem isort_mem {x : α} : ∀ {l : List α}, x ∈ isort le l ↔ x ∈ l
  | [] => Iff.rfl
  | a :: l => by
    show x ∈ ins le a (isort le l) ↔ _
    rw [ins_mem, isort_mem, List.mem_cons]
theorem isort_perm : ∀ l : List α, (isort le l).Perm l
  | [] => .nil
  | a :: l => by
    have ih := isort_perm l
    have q : ∀ m : List α, (ins le a m).Perm (a :: m) := by
      intro m
      induction m with
      | nil => exact .refl _
      | cons b m im =>
        unfold ins
        split
        · exact .refl _
        · exact (im.cons b).trans (.swap a b m)
    exact (q _).trans (ih.cons a)
end
def leD (a b : D) : Bool := !PySem.W.dataLt b a
def sortsOk (ds : List D) : Bool := (ds.all fun d => ds.all fun e => PySem.W.alike d e) && (ds.all fun d => decide (d.depth ≤ 60)) && decide (ds.length ≤ lim) &&
  ((ds.all fun d => match d with | .tuple (_ :: _) => true | _ => false) || (ds.all fun d => match d with | .tuple _ => false | .none => false | _ => true))
def fSorted : List D → Option RV
  | [.list xs] => if sortsOk xs = true then some (.fr (isort leD xs)) else none
  | [.tuple xs] => if sortsOk xs = true then some (.fr (isort leD xs)) else none
  | _ => none
theorem sortsOk_of {ds : List D} (h : sortsOk ds = true) : PySem.W.AllAlike ds ∧ PySem.W.Sortable ds ∧ (∀ d ∈ ds, d.depth ≤ 60) ∧ ds.length ≤ lim := by
  unfold sortsOk at h
  simp only [Bool.and_eq_true, List.all_eq_true, decide_eq_true_eq, Bool.or_eq_true] at h
  obtain ⟨⟨⟨h1, h2⟩, h3⟩, h4⟩ := h
  refine ⟨fun d hd e he => h1 d hd e he, ?_, h2, h3⟩
  rcases h4 with h4 | h4
  · refine .inl fun d hd => ?_
    have q := h4 d hd
    split at q
    · exact ⟨_, _, rfl⟩
    · cases q
  · refine .inr fun d hd => ?_
    have q := h4 d hd
    split at q
    · cases q
    · cases q
    · rename_i n1 n2
      exact ⟨fun e => n2 e, fun xs e => n1 xs e⟩
def rSortA (K : PySem.W.Frag) : List V → Hp → VK → Prop := fun vs H Q => ∃ a xs ds, vs = [.ref a] ∧ (Rd H a (.lst xs) ∨ SqT K H a xs) ∧ RpAll K H xs ds ∧ sortsOk ds = true ∧ ∀ p, H p = none → Q (.ref p) (upd H p (.lst ((isort (fun a b => leD a.2 b.2) (xs.zip ds)).map Prod.fst)))
theorem vals_zip {R : V → D → Prop} : ∀ {xs : List V} {ds : List D} {us : List Value}, Vals xs us → xs.length = ds.length → PySem.W.EachIs (fun u b => RelV b.1 u) us (xs.zip ds)
  | [], [], _, .nil, _ => .nil
  | x :: xs, d :: ds, _, .cons r t, h => .cons r (vals_zip (R := R) t (by simpa using h))
  | [], _ :: _, _, _, h => by cases h
  | _ :: _, [], _, _, h => by cases h
theorem each_vals : ∀ {us : List Value} {bs : List (V × D)}, PySem.W.EachIs (fun u b => RelV b.1 u) us bs → Vals (bs.map Prod.fst) us
  | _, _, .nil => .nil
  | _, _, .cons r t => .cons r (each_vals t)
theorem zip_reads {X : Cx} {pins : List (Addr × Obj)} {σ : L2.St} {H : Hp} {s : Shared} (I : L2.Inv X pins σ H s) : ∀ {xs : List V} {ds : List D} {us : List Value}, Vals xs us → RpAll X.K H xs ds → PySem.W.EachIs (fun u b => ∃ as, Reads s.heap u b.2 as) us (xs.zip ds)
  | [], [], _, .nil, _ => .nil
  | x :: xs, d :: ds, _, .cons r t, h => by
    cases h with
    | cons a b => exact .cons (a.reads I r) (zip_reads I t b)
  | [], _ :: _, _, _, h => by cases h
  | _ :: _, [], _, _, h => by cases h
theorem leD_total : PySem.W.TotalLe leD := PySem.W.sortLe_total (listOrd itemOrd) false PySem.W.keyToks
theorem call_sortA {X : Cx} (hu : X.A.units + 70 < cLine) : CallR X (.builtin "sorted") (rSortA X.K) := by
  intro pins s σ H vs us Q I rs ⟨a, xs, ds, e, hx, hr, ok, q⟩
  subst e
  obtain ⟨h1, h2, h3, h4⟩ := sortsOk_of ok
  have eu := rs.ref1
  subst eu
  have hl2 : xs.length = ds.length := hr.length
  have em : (xs.zip ds).map Prod.snd = ds := List.map_snd_zip (by omega)
  have el : (xs.zip ds).length = ds.length := by rw [List.length_zip]; omega
  have fin : ∀ {us : List Value} (out : List Value), out.length = (xs.zip ds).length → PySem.W.EachIs (fun u b => RelV b.1 u) out ((xs.zip ds).mergeSort (PySem.W.dataLe false Prod.snd)) → EP X pins σ Q (.ref (s.heap.objs.size + 1)) { s with heap := sortedAll s.heap us out.toArray } := fun {us} out ol oe => by
    have e2 : (xs.zip ds).mergeSort (PySem.W.dataLe false Prod.snd) = isort (fun a b => leD a.2 b.2) (xs.zip ds) := (isort_eq (PySem.W.sortLe_total (listOrd itemOrd) false fun b : V × D => PySem.W.keyToks b.2) _).symm
    rw [e2] at oe
    obtain ⟨c, ec⟩ := sortedAll_at s.heap us out.toArray
    have z2 : ((isort (fun a b => leD a.2 b.2) (xs.zip ds)).map Prod.fst).length ≤ sizeLine := by
      rw [List.length_map, ← oe.length, ol, el]; exact lim_le h4
    exact ⟨.ref (s.heap.objs.size + 1), upd H (s.heap.objs.size + 1) (.lst ((isort (fun a b => leD a.2 b.2) (xs.zip ds)).map Prod.fst)), I.laid (t' := s.toks) (fun b o e => sortedAll_old e) (Nat.le_succ _) ⟨z2, out, c, each_vals oe, ec⟩, rfl, q _ (I.hok.fresh (Nat.le_succ _))⟩
  rcases hx with hx | hx
  case inr =>
    obtain ⟨its, rv, p, hz⟩ := I.tuple hx
    refine PtW.sorted_dataT (enc := Prod.snd) (bs := xs.zip ds) (vs := its) (R := fun u b => RelV b.1 u) p (vals_zip (R := fun _ _ => True) rv hl2) (zip_reads I rv hr) (by rw [em]; exact h1) (by rw [em]; exact h2) (by rw [el]; exact lim_le h4) (fun b hb => ?_) fun out ol oe => fin out ol oe
    have z := h3 b.2 (List.of_mem_zip hb).2
    omega
  obtain ⟨hz, its, n, rv, hl, ho⟩ := Inv.rdL I hx
  refine PySem.W.sorted_data (enc := Prod.snd) (bs := xs.zip ds) (R := fun u b => RelV b.1 u) ⟨_, ho, rfl, n, rfl⟩ (vals_zip (R := fun _ _ => True) rv hl2) (zip_reads I rv hr) (by rw [em]; exact h1) (by rw [em]; exact h2) (by rw [el]; exact lim_le h4) (fun b hb => ?_) fun out ol oe => ?_
  · have z := h3 b.2 (List.of_mem_zip hb).2
    omega
  · exact fin out ol oe
theorem zip_all {K : PySem.W.Frag} {F : Hp} : ∀ {xs : List V} {ds : List D}, RpAll K F xs ds → ∀ b ∈ xs.zip ds, Rp K F b.1 b.2
  | [], [], _, b, h => by cases h
  | x :: xs, d :: ds, h, b, hb => by
    cases h with
    | cons r t =>
      rcases List.mem_cons.mp hb with e | hb
      · rw [e]; exact r
      · exact zip_all t b hb
  | [], _ :: _, h, _, _ => by cases h
  | _ :: _, [], h, _, _ => by cases h
theorem all_zip {K : PySem.W.Frag} {F : Hp} : ∀ {bs : List (V × D)}, (∀ b ∈ bs, Rp K F b.1 b.2) → RpAll K F (bs.map Prod.fst) (bs.map Prod.snd)
  | [], _ => .nil
  | b :: bs, h => .cons (h b List.mem_cons_self) (all_zip fun c hc => h c (List.mem_cons_of_mem _ hc))
theorem ok_sorted {K : PySem.W.Frag} : OpN K (rSortA K) fSorted := by
  intro F H vs ds rv Q s pv hf k
  unfold fSorted at hf
  split at hf
  · rename_i xs
    split at hf
    · rename_i hz
      cases hf
      obtain ⟨v, ev, pw⟩ := pv.one
      subst ev
      obtain ⟨a, us, e1, q1, r1⟩ := pw.lst s
      subst e1
      refine ⟨a, us, xs, rfl, .inl q1, RpAll.mono s _ _ r1, hz, fun p hp => k _ _ _ (.lst s hp ?_)⟩
      have hr := all_zip (K := K) (F := F) (bs := isort (fun a b => leD a.2 b.2) (us.zip xs)) fun b hb => zip_all r1 b (isort_mem.mp hb)
      rw [show (isort (fun a b => leD a.2 b.2) (us.zip xs)).map Prod.snd = isort leD ((us.zip xs).map Prod.snd) from isort_map (le := leD) (fun b : V × D => b.2) _, List.map_snd_zip (by rw [r1.length]; exact Nat.le_refl _)] at hr
      exact hr
    · cases hf
  · rename_i xs
    split at hf
    · rename_i hz
      cases hf
      obtain ⟨v, ev, pw⟩ := pv.one
      subst ev
      obtain ⟨a, us, e1, q1, r1⟩ := pw.tup
      subst e1
      refine ⟨a, us, xs, rfl, .inr (s.sqT q1), RpAll.mono s _ _ r1, hz, fun p hp => k _ _ _ (.lst s hp ?_)⟩
      have hr := all_zip (K := K) (F := F) (bs := isort (fun a b => leD a.2 b.2) (us.zip xs)) fun b hb => zip_all r1 b (isort_mem.mp hb)
      rw [show (isort (fun a b => leD a.2 b.2) (us.zip xs)).map Prod.snd = isort leD ((us.zip xs).map Prod.snd) from isort_map (le := leD) (fun b : V × D => b.2) _, List.map_snd_zip (by rw [r1.length]; exact Nat.le_refl _)] at hr
      exact hr
    · cases hf
  · cases hf
end Pu
set_option Elab.async false
set_option linter.all false
set_option maxRecDepth 100000
set_option maxHeartbeats 1000000
/-! Pu6: the pure layer: targets, what is walked, comprehensions. -/
namespace Pu
open PySem L2 PyProof.Rows RZ
/-! ### targets -/
inductive Tg where
  | n (i : Nat)
  | t (l : List Nat)
def Tg.slots : Tg → List Nat
  | .n i => [i]
  | .t l => l
def put1 (i : Nat) (d : D) (ρ : Ev) : Option Ev := match ρ[i]? with
  | some (some (.io _)) => none
  | some _ => some (ρ.set i (some (.frz d)))
  | none => none
def puts : List Nat → List D → Ev → Option Ev
  | [], [], ρ => some ρ
  | i :: is, d :: ds, ρ => (put1 i d ρ).bind (puts is ds)
  | _, _, _ => none
def asg (t : Tg) (d : D) (ρ : Ev) : Option Ev := match t with
  | .n i => put1 i d ρ
  | .t l => match d with
    | .tuple ds => puts l ds ρ
    | .list ds => puts l ds ρ
    | _ => none
def Chg (vs : List Nat) (σ σ' : L2.St) : Prop := σ'.length = σ.length ∧ ∀ i : Nat, i ∉ vs → σ'[i]? = σ[i]?
theorem Chg.refl (vs : List Nat) (σ : L2.St) : Chg vs σ σ := ⟨rfl, fun _ _ => rfl⟩
theorem Chg.trans {vs us : List Nat} {a b c : L2.St} (h : Chg vs a b) (g : Chg us b c) : Chg (vs ++ us) a c :=
  ⟨g.1.trans h.1, fun i hi => (g.2 i fun z => hi (List.mem_append_right _ z)).trans (h.2 i fun z => hi (List.mem_append_left _ z))⟩
theorem set_getV {l : L2.St} {i j : Nat} {x : Option V} : (l.set i x)[j]? = if j = i then (if j < l.length then some x else none) else l[j]? := by
  by_cases h : j = i
  · subst h
    rw [if_pos rfl]
    by_cases hl : j < l.length
    · rw [List.getElem?_set_self hl, if_pos hl]
    · rw [if_neg hl, List.getElem?_eq_none (by simpa using hl)]
  · rw [if_neg h, List.getElem?_set_ne fun z => h z.symm]
theorem St.put {K : PySem.W.Frag} {F H : Hp} {ρ : Ev} {σ : L2.St} {i : Nat} {d : D} {v : V} {x : Option Sl} (S : St K F ρ σ H) (hi : ρ[i]? = some x) (r : Rp K F v d) : St K F (ρ.set i (some (.frz d))) (σ.set i (some v)) H := by
  have hl : i < σ.length := by rw [← S.len]; exact (List.getElem?_eq_some_iff.mp hi).1
  refine ⟨by rw [List.length_set, List.length_set]; exact S.len, S.le, fun j s hs => ?_, fun j k s t b hj hk ms mt ej ek => ?_, S.tb, S.nt⟩
  · rcases set_get hs with ⟨z, e⟩ | ⟨z, hs⟩
    · subst z; cases e
      exact ⟨v, by rw [set_getV, if_pos rfl, if_pos hl], r⟩
    · obtain ⟨u, e, ok⟩ := S.slot j s hs
      exact ⟨u, by rw [set_getV, if_neg z]; exact e, ok⟩
  · rcases set_get hj with ⟨z, e⟩ | ⟨z, hj⟩
    · cases e; cases ms
    · rcases set_get hk with ⟨z2, e⟩ | ⟨z2, hk⟩
      · cases e; cases mt
      · rw [set_getV, if_neg z] at ej
        rw [set_getV, if_neg z2] at ek
        exact S.inj j k s t b hj hk ms mt ej ek
theorem put1_some {i : Nat} {d : D} {ρ ρ' : Ev} (h : put1 i d ρ = some ρ') : ∃ x, ρ[i]? = some x ∧ (∀ xs, x ≠ some (.io xs)) ∧ ρ' = ρ.set i (some (.frz d)) := by
  unfold put1 at h
  split at h
  · cases h
  · rename_i x n e
    cases h
    exact ⟨x, e, fun xs z => n xs (by rw [z]), rfl⟩
  · cases h
theorem Mu.put {ρ : Ev} {σ : L2.St} {i : Nat} {d : D} {v : V} {b : Addr} (m : Mu (ρ.set i (some (.frz d))) (σ.set i (some v)) b) : Mu ρ σ b := by
  obtain ⟨j, s, hs, ms, e⟩ := m
  rcases set_get hs with ⟨z, e'⟩ | ⟨z, hs⟩
  · cases e'; cases ms
  · rw [set_getV, if_neg z] at e
    exact ⟨j, s, hs, ms, e⟩
/-- the store of a target -/
def tG (w : Wi) (t : Tg) : TG := fun v σ H Q => ∃ F ρ d ρ', St w.K F ρ σ H ∧ Rp w.K F v d ∧ asg t d ρ = some ρ' ∧ ∀ σ', St w.K F ρ' σ' H → Chg t.slots σ σ' → (∀ b, Mu ρ' σ' b → Mu ρ σ b) → Q σ' H
def tGs (w : Wi) (is : List Nat) : TGs := fun vs σ H Q => ∃ F ρ ds ρ', St w.K F ρ σ H ∧ RpAll w.K F vs ds ∧ puts is ds ρ = some ρ' ∧ ∀ σ', St w.K F ρ' σ' H → Chg is σ σ' → (∀ b, Mu ρ' σ' b → Mu ρ σ b) → Q σ' H
theorem PGimp {X : Cx} {e : Expr} {t t' : TG} (h : PG X e t) (i : ∀ v σ H Q, t' v σ H Q → t v σ H Q) : PG X e t' := ⟨fun pins s σ H v u Q I r q => h.run pins s σ H v u Q I r (i _ _ _ _ q)⟩
theorem PGsimp {X : Cx} {e : List Expr} {t t' : TGs} (h : PGs X e t) (i : ∀ v σ H Q, t' v σ H Q → t v σ H Q) : PGs X e t' := ⟨fun pins s σ H v u Q I r q => h.run pins s σ H v u Q I r (i _ _ _ _ q)⟩
section
variable {w : Wi} {X : Cx}
theorem sg_name {i : Nat} {x : Str} {pos : Pos} (hN : X.N.Nodup) (hi : X.N[i]? = some x) (hx : Loc X.env.scope x) (hf : X.fn x = true ∨ X.env.scope.names.lookup x = some .local) : PG X (.Name x pos) (tG w (.n i)) := by
  refine PGimp (pg_name hN hi hx hf) fun v σ H Q ⟨F, ρ, d, ρ', S, r, ha, q⟩ => ?_
  obtain ⟨y, h1, h2, h3⟩ := put1_some (show put1 i d ρ = some ρ' from ha)
  subst h3
  exact q _ (S.put h1 r) ⟨by rw [List.length_set], fun j hj => by rw [set_getV, if_neg fun z => hj (by rw [z]; exact List.mem_cons_self)]⟩ fun b m => m.put
theorem sgs_nil : PGs X [] (tGs w []) := by
  refine PGsimp pgs_nil fun v σ H Q ⟨F, ρ, ds, ρ', S, r, ha, q⟩ => ?_
  cases ds with
  | nil =>
    cases r
    cases ha
    exact ⟨rfl, q σ S (.refl _ _) fun _ m => m⟩
  | cons _ _ => cases ha
theorem sgs_cons {e : Expr} {es : List Expr} {i : Nat} {is : List Nat} (h1 : PG X e (tG w (.n i))) (h2 : PGs X es (tGs w is)) (hs : (assignEach (e :: es) X.env).map (·.2) = assign e X.env :: (assignEach es X.env).map (·.2)) : PGs X (e :: es) (tGs w (i :: is)) := by
  refine PGsimp (pgs_cons h1 h2 hs) fun v σ H Q ⟨F, ρ, ds, ρ', S, r, ha, q⟩ => ?_
  cases ds with
  | nil => cases ha
  | cons d ds =>
    cases r with
    | cons r rs =>
      have ha : (put1 i d ρ).bind (puts is ds) = some ρ' := ha
      cases e1 : put1 i d ρ with
      | none => rw [e1] at ha; cases ha
      | some ρ1 =>
        rw [e1] at ha
        refine ⟨_, _, rfl, F, ρ, d, ρ1, S, r, e1, fun σ1 S1 c1 m1 => ⟨F, ρ1, ds, ρ', S1, rs, ha, fun σ2 S2 c2 m2 => q σ2 S2 ?_ fun b m => m1 b (m2 b m)⟩⟩
        exact Chg.trans c1 c2
theorem sg_tup {es : List Expr} {k : Nat} {pos : Pos} {is : List Nat} (hK : w.K = X.K) (hc : X.calm = true) (h : PGs X es (tGs w is)) (hn : (assignEach es X.env).length = is.length) (hst : (assignEach es X.env).findIdx? (·.1) = none) : PG X (.Tuple es k pos) (tG w (.t is)) := by
  refine ⟨fun pins s σ H v u Q I r ⟨F, ρ, d, ρ', S, rp, ha, q⟩ => ?_⟩
  have len : ∀ {is : List Nat} {ds : List D} {ρ ρ' : Ev}, puts is ds ρ = some ρ' → ds.length = is.length := by
    intro is
    induction is with
    | nil =>
      intro ds ρ ρ' h
      cases ds with
      | nil => rfl
      | cons _ _ => cases h
    | cons i is ih =>
      intro ds ρ ρ' h
      cases ds with
      | nil => cases h
      | cons d ds =>
        have h : (put1 i d ρ).bind (puts is ds) = some ρ' := h
        cases e1 : put1 i d ρ with
        | none => rw [e1] at h; cases h
        | some ρ1 =>
          rw [e1] at h
          rw [List.length_cons, List.length_cons, ih h]
  cases d with
  | tuple ds =>
    cases rp with
    | tup hq hr => exact (pg_tup hc h hn hst).run pins s σ H _ u Q I r ⟨_, _, rfl, S.le.sqT (hK ▸ hq), by rw [hr.length, len ha], F, ρ, ds, ρ', S, hr, ha, q⟩
  | list ds =>
    cases rp with
    | lst hq hr => exact (pg_lst hc h hn hst).run pins s σ H _ u Q I r ⟨_, _, rfl, .inl (S.le.rd hq), by rw [hr.length, len ha], F, ρ, ds, ρ', S, hr, ha, q⟩
  | none => cases ha
  | bool _ => cases ha
  | int _ => cases ha
  | str _ => cases ha
  | dict _ => cases ha
end

/-! ### what is walked -/
structure ItD (K : PySem.W.Frag) (Fb : Hp) (J : It) (ds : List D) : Prop where
  go : ∀ (i : Nat) H, Sub Fb H → i < ds.length → J.go i H
  stop : ∀ H, Sub Fb H → J.stop ds.length H
  yld : ∀ (i : Nat) d x H H' F, Sub Fb F → Sub F H → ds[i]? = some d → J.yld i H x H' → ∃ F', Mk K F H x F' H' (.fz d)
def tI (w : Wi) (m : M (List D)) : TI := fun σ H R => ∃ F ρ, St w.K F ρ σ H ∧ Wp w F ρ σ H (m ρ) fun ds ρ' F' H' => ∀ J, ItD w.K F' J ds → R J H'
def signs (z : Str) : List D := z.cps.toList.map fun c => PyData.str ⟨#[c]⟩
def seqOf (h : Hd) : M (List D) := fun ρ => match h with
  | .v (.fz (.list xs)) => .ok xs ρ
  | .v (.fz (.tuple xs)) => .ok xs ρ
  | .v (.fz (.str z)) => .ok (signs z) ρ
  | _ => .bad
def mSeq (m : M Hd) : M (List D) := fun ρ => (mEsc m ρ).bind seqOf
section
variable {w : Wi} {X : Cx} {tg : Expr}
theorem at_some {α : Type} {l : List α} {i : Nat} (h : i < l.length) : ∃ x, l[i]? = some x := ⟨_, List.getElem?_eq_getElem h⟩
theorem itd_list {K : PySem.W.Frag} {F : Hp} {a : Addr} {vs : List V} {ds : List D} (q : Rd F a (.lst vs)) (r : RpAll K F vs ds) : ItD K F (Itl K a) ds where
  go := fun i H s h => by
    obtain ⟨x, e⟩ := at_some (l := vs) (i := i) (by rw [r.length]; exact h)
    exact ⟨vs, x, .inl (s.rd q), e⟩
  stop := fun H s => ⟨vs, .inl (s.rd q), by rw [r.length]; exact Nat.le_refl _⟩
  yld := fun i d x H H' F' s1 s2 e ⟨e1, e2⟩ => by
    subst e1
    obtain ⟨v, hv, rp⟩ := r.get e
    have z := e2 vs (.inl ((s1.trans s2).rd q))
    rw [hv] at z; cases z
    exact ⟨F', .val s2 (Rp.mono s1 _ _ rp)⟩
theorem itd_tup {K : PySem.W.Frag} {F : Hp} {a : Addr} {vs : List V} {ds : List D} (q : SqT K F a vs) (r : RpAll K F vs ds) : ItD K F (Itt K a) ds where
  go := fun i H s h => by
    obtain ⟨x, e⟩ := at_some (l := vs) (i := i) (by rw [r.length]; exact h)
    exact ⟨vs, x, s.sqT q, e⟩
  stop := fun H s => ⟨vs, s.sqT q, by rw [r.length]; exact Nat.le_refl _⟩
  yld := fun i d x H H' F' s1 s2 e ⟨e1, e2⟩ => by
    subst e1
    obtain ⟨v, hv, rp⟩ := r.get e
    have z := e2 vs ((s1.trans s2).sqT q)
    rw [hv] at z; cases z
    exact ⟨F', .val s2 (Rp.mono s1 _ _ rp)⟩
theorem itd_str {K : PySem.W.Frag} {F : Hp} (z : Str) : ItD K F (Its z) (signs z) where
  go := fun i H s h => by
    unfold signs at h
    rw [List.length_map, Array.length_toList] at h
    exact h
  stop := fun H s => by
    unfold signs
    rw [List.length_map, Array.length_toList]
    exact Nat.le_refl _
  yld := fun i d x H H' F' s1 s2 e ⟨e1, c, hc, ex⟩ => by
    subst e1; subst ex
    unfold signs at e
    rw [List.getElem?_map, Array.getElem?_toList, hc] at e
    cases e
    exact ⟨F', .val s2 (.str _)⟩
theorem si_seq {e : Expr} {m : M Hd} (hK : w.K = X.K) (he : PE X e (tK w m)) : PI X tg e (tI w (mSeq m)) := by
  refine ⟨fun pins s σ H R I ⟨F, ρ, S, h⟩ => ?_⟩
  have hE := se_esc he
  unfold mSeq at h
  have z := Wp.bind S h
  cases e1 : mEsc m ρ with
  | bad => rw [e1] at z; exact z.elim
  | exc x ρ1 =>
    rw [e1] at z
    exact (pi_list hE).run pins s σ H R I ⟨F, ρ, S, by rw [e1]; exact z⟩
  | ok k ρ1 =>
    rw [e1] at z
    have fin : ∀ ds, seqOf k ρ1 = .ok ds ρ1 → ∀ F1 H1, StpE w.K F ρ σ H F1 ρ1 H1 → ∀ J, ItD w.K F1 J ds → R J H1 := fun ds eq F1 H1 p J hJ => by
      obtain ⟨_, z2⟩ := z F1 H1 p
      rw [eq] at z2
      exact z2.ok p.st J hJ
    unfold seqOf at fin
    split at fin
    · rename_i xs
      refine (pi_list hE).run pins s σ H R I ⟨F, ρ, S, ?_⟩
      rw [e1]
      intro F1 H1 p v hv
      have hv : Rp w.K F1 v (.list xs) := hv
      cases hv with
      | lst q r => exact ⟨_, rfl, ⟨_, .inl (p.st.le.rd q)⟩, fin xs rfl F1 H1 p _ (hK ▸ itd_list q r)⟩
    · rename_i xs
      refine (pi_tup hE).run pins s σ H R I ⟨F, ρ, S, ?_⟩
      rw [e1]
      intro F1 H1 p v hv
      have hv : Rp w.K F1 v (.tuple xs) := hv
      cases hv with
      | tup q r => exact ⟨_, rfl, ⟨_, p.st.le.sqT (hK ▸ q)⟩, fin xs rfl F1 H1 p _ (hK ▸ itd_tup q r)⟩
    · rename_i y
      refine (pi_str hE).run pins s σ H R I ⟨F, ρ, S, ?_⟩
      rw [e1]
      intro F1 H1 p v hv
      have hv : Rp w.K F1 v (.str y) := hv
      cases hv
      exact ⟨y, rfl, fin _ rfl F1 H1 p _ (itd_str y)⟩
    · rename_i n1 n2 n3
      refine (pi_list hE).run pins s σ H R I ⟨F, ρ, S, ?_⟩
      rw [e1]
      intro F1 H1 p v hv
      obtain ⟨_, z2⟩ := z F1 H1 p
      have eb : seqOf k ρ1 = .bad := by
        unfold seqOf
        split
        · exact absurd rfl (n1 _)
        · exact absurd rfl (n2 _)
        · exact absurd rfl (n3 _)
        · rfl
      rw [eb] at z2
      exact z2.elim
/-- range(..) -/
def rgD (lo hi : Int) : List D := (List.range (hi - lo).toNat).map fun i => PyData.int (lo + (i : Nat))
def rgOk (a b : Int) : Bool := decide (-4611686018427387904 ≤ a) && decide (a < 4611686018427387904) && decide (-4611686018427387904 ≤ b) && decide (b < 4611686018427387904)
def mWalk (f : List D → Option (List D)) (ms : List (M Hd)) : M (List D) := fun ρ => (mArgs ms ρ).bind fun hs ρ1 => match fzs hs with
  | some ds => (match f ds with
    | some l => .ok l ρ1
    | none => .bad)
  | none => .bad
theorem walk_in {f : List D → Option (List D)} {ms : List (M Hd)} {σ : L2.St} {H : Hp} {R : It → Hp → Prop} (h : tI w (mWalk f ms) σ H R) :
    tA w (mArgs ms) σ H fun vs H1 => ∃ F1 ds l, Sub F1 H1 ∧ RpAll w.K F1 vs ds ∧ f ds = some l ∧ ∀ J, ItD w.K F1 J l → R J H1 := by
  obtain ⟨F, ρ, S, h⟩ := h
  refine ⟨F, ρ, S, (Wp.bind S h).mono fun hs ρ1 F1 H1 ⟨p, q⟩ vs hv => ?_⟩
  split at q
  · rename_i ds ed
    split at q
    · rename_i l ef
      exact ⟨F1, ds, l, p.st.le, hv.fzs ed, ef, q.ok p.st⟩
    · exact q.elim
  · exact q.elim
theorem PIimp {e : Expr} {t t' : TI} (h : PI X tg e t) (i : ∀ σ H R, t' σ H R → t σ H R) : PI X tg e t' := ⟨fun pins s σ H Q I q => h.run pins s σ H Q I (i σ H Q q)⟩
theorem TA_mono {m : M (List Hd)} {σ : L2.St} {H : Hp} {Q Q' : List V → Hp → Prop} (h : tA w m σ H Q) (i : ∀ b H, Q b H → Q' b H) : tA w m σ H Q' := by
  obtain ⟨F, ρ, S, h⟩ := h
  exact ⟨F, ρ, S, Wp.mono h fun _ _ _ _ q v hv => i _ _ (q v hv)⟩
theorem RpAll.one {K : PySem.W.Frag} {F : Hp} {vs : List V} {d : D} (h : RpAll K F vs [d]) : ∃ v, vs = [v] ∧ Rp K F v d := by
  cases h with
  | cons a b => cases b; exact ⟨_, rfl, a⟩
theorem RpAll.two {K : PySem.W.Frag} {F : Hp} {vs : List V} {d e : D} (h : RpAll K F vs [d, e]) : ∃ v u, vs = [v, u] ∧ Rp K F v d ∧ Rp K F u e := by
  cases h with
  | cons a b =>
    cases b with
    | cons c b => cases b; exact ⟨_, _, rfl, a, c⟩
def fRange1 : List D → Option (List D)
  | [.int n] => if rgOk 0 n = true then some (rgD 0 n) else none
  | _ => none
def fRange2 : List D → Option (List D)
  | [.int i, .int j] => if rgOk i j = true then some (rgD i j) else none
  | _ => none
theorem rgOk_of {a b : Int} (h : rgOk a b = true) : -(2 ^ 62) ≤ a ∧ a < 2 ^ 62 ∧ -(2 ^ 62) ≤ b ∧ b < 2 ^ 62 := by
  unfold rgOk at h
  simp only [Bool.and_eq_true, decide_eq_true_eq] at h
  exact ⟨h.1.1.1, h.1.1.2, h.1.2, h.2⟩
theorem itd_range {K : PySem.W.Frag} {F : Hp} (lo hi : Int) : ItD K F (Itr lo (hi - lo).toNat) (rgD lo hi) where
  go := fun i H s h => by
    unfold rgD at h
    rw [List.length_map, List.length_range] at h
    exact h
  stop := fun H s => by
    unfold rgD
    rw [List.length_map, List.length_range]
    exact Nat.le_refl _
  yld := fun i d x H H' F' s1 s2 e ⟨e1, ex⟩ => by
    subst e1; subst ex
    unfold rgD at e
    rw [List.getElem?_map] at e
    cases e2 : (List.range (hi - lo).toNat)[i]? with
    | none => rw [e2] at e; cases e
    | some j =>
      rw [e2] at e
      obtain ⟨hj, ej⟩ := List.getElem?_eq_some_iff.mp e2
      rw [List.getElem_range] at ej
      subst ej
      cases e
      exact ⟨F', .val s2 (.int _)⟩
theorem si_range1 {a : Expr} {ms : List (M Hd)} {p pos : Pos} (hg : Gl X "range") (hm : X.mg "range" = none) (ha : PA X [a] (tA w (mArgs ms))) (hs : starEach [a] X.env = [(false, eval a X.env)]) : PI X tg (.Call (.Name "range" p) [a] [] pos) (tI w (mWalk fRange1 ms)) := by
  refine PIimp (pi_range1 hg hm ha hs) fun σ H R h => TA_mono (walk_in h) fun vs H1 ⟨F1, ds, l, s, r, ef, q⟩ => ?_
  unfold fRange1 at ef
  split at ef
  · rename_i n
    split at ef
    · rename_i ok
      cases ef
      obtain ⟨v, rfl, rv⟩ := r.one
      cases rv
      obtain ⟨h1, h2, h3, h4⟩ := rgOk_of ok
      refine ⟨n, rfl, h3, h4, q _ ?_⟩
      have g := itd_range (K := w.K) (F := F1) 0 n
      rw [Int.sub_zero] at g
      exact g
    · cases ef
  · cases ef
theorem si_range2 {a b : Expr} {ms : List (M Hd)} {p pos : Pos} (hg : Gl X "range") (hm : X.mg "range" = none) (ha : PA X [a, b] (tA w (mArgs ms))) (hs : starEach [a, b] X.env = [(false, eval a X.env), (false, eval b X.env)]) (hs2 : starEach [b] X.env = [(false, eval b X.env)]) :
    PI X tg (.Call (.Name "range" p) [a, b] [] pos) (tI w (mWalk fRange2 ms)) := by
  refine PIimp (pi_range2 hg hm ha hs hs2) fun σ H R h => TA_mono (walk_in h) fun vs H1 ⟨F1, ds, l, s, r, ef, q⟩ => ?_
  unfold fRange2 at ef
  split at ef
  · rename_i i j
    split at ef
    · rename_i ok
      cases ef
      obtain ⟨v, u, rfl, rv, ru⟩ := r.two
      cases rv; cases ru
      exact ⟨i, j, rfl, rgOk_of ok, q _ (itd_range i j)⟩
    · cases ef
  · cases ef
/-- zip of two sequences -/
def pairs : List D → List D → List D
  | x :: xs, y :: ys => .tuple [x, y] :: pairs xs ys
  | _, _ => []
def fZip : List D → Option (List D)
  | [.list xs, .list ys] => some (pairs xs ys)
  | [.tuple xs, .tuple ys] => some (pairs xs ys)
  | [.list xs, .tuple ys] => some (pairs xs ys)
  | [.tuple xs, .list ys] => some (pairs xs ys)
  | _ => none
/-- a list (true), a tuple (false) -/
def SqF (k : Bool) (K : PySem.W.Frag) (F : Hp) (a : Addr) (vs : List V) : Prop := bif k then Rd F a (.lst vs) else SqT K F a vs
theorem SqF.on {k : Bool} {K : PySem.W.Frag} {F H : Hp} {a : Addr} {vs : List V} (s : Sub F H) (q : SqF k K F a vs) : Pz.SqB k K H a vs := by
  cases k
  · exact s.sqT q
  · exact .inl (s.rd q)
theorem pairs_get : ∀ {xs ys : List D} {i : Nat} {d : D}, (pairs xs ys)[i]? = some d → ∃ x y, xs[i]? = some x ∧ ys[i]? = some y ∧ d = .tuple [x, y]
  | [], _, _, _, h => by simp [pairs] at h
  | _ :: _, [], _, _, h => by simp [pairs] at h
  | x :: xs, y :: ys, 0, d, h => by
    simp [pairs] at h
    exact ⟨x, y, rfl, rfl, h.symm⟩
  | x :: xs, y :: ys, i + 1, d, h => by
    obtain ⟨a, b, h1, h2, h3⟩ := pairs_get (xs := xs) (ys := ys) (i := i) (by simpa [pairs] using h)
    exact ⟨a, b, by simpa using h1, by simpa using h2, h3⟩
theorem pairs_len : ∀ xs ys : List D, (pairs xs ys).length = min xs.length ys.length
  | [], _ => by simp [pairs]
  | _ :: _, [] => by simp [pairs]
  | x :: xs, y :: ys => by simp only [pairs, List.length_cons, pairs_len xs ys]; omega
theorem mk_pair {K : PySem.W.Frag} {F H : Hp} {T : Addr} {x y : V} {d e : D} (s : Sub F H) (hn : H T = none) (a : Rp K F x d) (b : Rp K F y e) : Mk K F H (.ref T) (upd F T (.tup [x, y])) (upd H T (.tup [x, y])) (.fz (.tuple [d, e])) := .tup s hn (.cons a (.cons b .nil))
theorem itd_zip {K : PySem.W.Frag} {F : Hp} {k l : Bool} {a b : Addr} {vs us : List V} {ds es : List D} (q1 : SqF k K F a vs) (q2 : SqF l K F b us) (r1 : RpAll K F vs ds) (r2 : RpAll K F us es) : ItD K F (Pz.Itz k l K a b) (pairs ds es) where
  go := fun i H s h => by
    rw [pairs_len] at h
    obtain ⟨x, e⟩ := at_some (l := vs) (i := i) (by rw [r1.length]; omega)
    obtain ⟨y, e'⟩ := at_some (l := us) (i := i) (by rw [r2.length]; omega)
    exact ⟨vs, us, x, y, q1.on s, q2.on s, e, e'⟩
  stop := fun H s => ⟨vs, us, q1.on s, q2.on s, by rw [pairs_len, r1.length]; omega, by rw [pairs_len, r2.length]; omega, by rw [pairs_len, r1.length, r2.length]; omega⟩
  yld := fun i d x H H' F' s1 s2 e ⟨T, v, u, ex, hn, eH, f1, f2⟩ => by
    subst ex; subst eH
    obtain ⟨d1, d2, e1, e2, ed⟩ := pairs_get e
    subst ed
    obtain ⟨v', hv, rp⟩ := r1.get e1
    obtain ⟨u', hu, rq⟩ := r2.get e2
    have z := f1 vs (q1.on (s1.trans s2))
    rw [hv] at z; cases z
    have z := f2 us (q2.on (s1.trans s2))
    rw [hu] at z; cases z
    exact ⟨_, mk_pair s2 hn (Rp.mono s1 _ _ rp) (Rp.mono s1 _ _ rq)⟩
theorem si_zip {e e2 : Expr} {ms : List (M Hd)} {p pos tpos : Pos} {elts : List Expr} {kk : Nat} (hK : w.K = X.K) (hg : Gl X "zip") (hm : X.mg "zip" = none) (ha : PA X [e, e2] (tA w (mArgs ms))) (hs : starEach [e, e2] X.env = (false, eval e X.env) :: starEach [e2] X.env) (hpl : (backTo pos (starEach [e2] X.env)).any (·.1) = false) :
    PI X (.Tuple elts kk tpos) (.Call (.Name "zip" p) [e, e2] [] pos) (tI w (mWalk fZip ms)) := by
  refine PIimp (Pz.pi_zip hg hm ha hs hpl) fun σ H R h => TA_mono (walk_in h) fun vs H1 ⟨F1, ds, l, s, r, ef, q⟩ => ?_
  unfold fZip at ef
  split at ef
  · cases ef
    obtain ⟨v, u, rfl, rv, ru⟩ := r.two
    cases rv with
    | lst q1 r1 =>
      cases ru with
      | lst q2 r2 => exact ⟨true, true, _, _, _, _, rfl, SqF.on s (k := true) q1, SqF.on s (k := true) q2, q _ (hK ▸ itd_zip (k := true) (l := true) q1 q2 r1 r2)⟩
  · cases ef
    obtain ⟨v, u, rfl, rv, ru⟩ := r.two
    cases rv with
    | tup q1 r1 =>
      cases ru with
      | tup q2 r2 => exact ⟨false, false, _, _, _, _, rfl, hK ▸ SqF.on s (k := false) q1, hK ▸ SqF.on s (k := false) q2, q _ (hK ▸ itd_zip (k := false) (l := false) q1 q2 r1 r2)⟩
  · cases ef
    obtain ⟨v, u, rfl, rv, ru⟩ := r.two
    cases rv with
    | lst q1 r1 =>
      cases ru with
      | tup q2 r2 => exact ⟨true, false, _, _, _, _, rfl, SqF.on s (k := true) q1, hK ▸ SqF.on s (k := false) q2, q _ (hK ▸ itd_zip (k := true) (l := false) q1 q2 r1 r2)⟩
  · cases ef
    obtain ⟨v, u, rfl, rv, ru⟩ := r.two
    cases rv with
    | tup q1 r1 =>
      cases ru with
      | lst q2 r2 => exact ⟨false, true, _, _, _, _, rfl, hK ▸ SqF.on s (k := false) q1, SqF.on s (k := true) q2, q _ (hK ▸ itd_zip (k := false) (l := true) q1 q2 r1 r2)⟩
  · cases ef
/-- enumerate of a sequence -/
def numb : Nat → List D → List D
  | _, [] => []
  | n, x :: xs => .tuple [.int (n : Nat), x] :: numb (n + 1) xs
def fEnum : List D → Option (List D)
  | [.list xs] => some (numb 0 xs)
  | [.tuple xs] => some (numb 0 xs)
  | _ => none
theorem numb_get : ∀ {xs : List D} {n i : Nat} {d : D}, (numb n xs)[i]? = some d → ∃ x, xs[i]? = some x ∧ d = .tuple [.int ((n + i : Nat) : Int), x]
  | [], _, _, _, h => by simp [numb] at h
  | x :: xs, n, 0, d, h => by
    simp [numb] at h
    exact ⟨x, rfl, h.symm⟩
  | x :: xs, n, i + 1, d, h => by
    obtain ⟨a, h1, h2⟩ := numb_get (xs := xs) (n := n + 1) (i := i) (by simpa [numb] using h)
    exact ⟨a, by simpa using h1, by rw [h2, show n + 1 + i = n + (i + 1) by omega]⟩
theorem numb_len : ∀ (xs : List D) (n : Nat), (numb n xs).length = xs.length
  | [], _ => rfl
  | x :: xs, n => by simp only [numb, List.length_cons, numb_len xs]
theorem itd_enum {K : PySem.W.Frag} {F : Hp} {k : Bool} {a : Addr} {vs : List V} {ds : List D} (q : SqF k K F a vs) (r : RpAll K F vs ds) : ItD K F (Pz.Ite k K a) (numb 0 ds) where
  go := fun i H s h => by
    rw [numb_len] at h
    obtain ⟨x, e⟩ := at_some (l := vs) (i := i) (by rw [r.length]; exact h)
    exact ⟨vs, x, q.on s, e⟩
  stop := fun H s => ⟨vs, q.on s, by rw [numb_len, r.length]⟩
  yld := fun i d x H H' F' s1 s2 e ⟨T, v, ex, hn, eH, f1⟩ => by
    subst ex; subst eH
    obtain ⟨d1, e1, ed⟩ := numb_get e
    subst ed
    obtain ⟨v', hv, rp⟩ := r.get e1
    have z := f1 vs (q.on (s1.trans s2))
    rw [hv] at z; cases z
    rw [Nat.zero_add]
    exact ⟨_, mk_pair s2 hn (.int _) (Rp.mono s1 _ _ rp)⟩
theorem si_enum {e : Expr} {ms : List (M Hd)} {p pos tpos : Pos} {elts : List Expr} {kk : Nat} (hK : w.K = X.K) (hg : Gl X "enumerate") (hm : X.mg "enumerate" = none) (ha : PA X [e] (tA w (mArgs ms))) (hs : starEach [e] X.env = [(false, eval e X.env)]) :
    PI X (.Tuple elts kk tpos) (.Call (.Name "enumerate" p) [e] [] pos) (tI w (mWalk fEnum ms)) := by
  refine PIimp (Pz.pi_enum hg hm ha hs) fun σ H R h => TA_mono (walk_in h) fun vs H1 ⟨F1, ds, l, s, r, ef, q⟩ => ?_
  unfold fEnum at ef
  split at ef
  · cases ef
    obtain ⟨v, rfl, rv⟩ := r.one
    cases rv with
    | lst q1 r1 => exact ⟨true, _, _, rfl, SqF.on s (k := true) q1, q _ (hK ▸ itd_enum (k := true) q1 r1)⟩
  · cases ef
    obtain ⟨v, rfl, rv⟩ := r.one
    cases rv with
    | tup q1 r1 => exact ⟨false, _, _, rfl, hK ▸ SqF.on s (k := false) q1, q _ (hK ▸ itd_enum (k := false) q1 r1)⟩
  · cases ef
end
end Pu
set_option Elab.async false
set_option linter.all false
set_option maxRecDepth 100000
set_option maxHeartbeats 1000000
/-! Pu7: the pure layer: comprehensions. -/
namespace Pu
open PySem L2 PyProof.Rows
/-- slots of vs as f says, the others as they are -/
def over (vs : List Nat) (f : Nat → Option Sl) : Nat → Ev → Ev
  | _, [] => []
  | k, x :: r => (bif vs.contains k then f k else x) :: over vs f (k + 1) r
theorem over_get (vs : List Nat) (f : Nat → Option Sl) : ∀ (ρ : Ev) (k i : Nat), (over vs f k ρ)[i]? = (ρ[i]?).map fun x => bif vs.contains (k + i) then f (k + i) else x
  | [], _, _ => by simp [over]
  | x :: r, k, 0 => by simp [over]
  | x :: r, k, i + 1 => by
    have h := over_get vs f r (k + 1) i
    simp only [over, List.getElem?_cons_succ, h]
    rw [show k + 1 + i = k + (i + 1) by omega]
theorem over_len (vs : List Nat) (f : Nat → Option Sl) : ∀ (ρ : Ev) (k : Nat), (over vs f k ρ).length = ρ.length
  | [], _ => rfl
  | x :: r, k => by simp only [over, List.length_cons, over_len vs f r]
def wipeE (vs : List Nat) (ρ : Ev) : Ev := over vs (fun _ => none) 0 ρ
def backE (vs : List Nat) (ρ0 ρ : Ev) : Ev := over vs (fun i => (ρ0[i]?).join) 0 ρ
theorem wipeE_get {vs : List Nat} {ρ : Ev} {i : Nat} {s : Sl} : (wipeE vs ρ)[i]? = some (some s) ↔ i ∉ vs ∧ ρ[i]? = some (some s) := by
  unfold wipeE
  rw [over_get, Nat.zero_add]
  cases e : ρ[i]? with
  | none => simp
  | some x =>
    by_cases h : i ∈ vs
    · simp [h]
    · simp [h]
theorem wipeE_join {vs : List Nat} {ρ : Ev} {i : Nat} : ((wipeE vs ρ)[i]?).join = if i ∈ vs then none else (ρ[i]?).join := by
  unfold wipeE
  rw [over_get, Nat.zero_add]
  cases e : ρ[i]? with
  | none => simp
  | some x =>
    by_cases h : i ∈ vs
    · simp [h]
    · simp [h]
theorem backE_join {vs : List Nat} {ρ0 ρ : Ev} {i : Nat} (hl : ρ.length = ρ0.length) : ((backE vs ρ0 ρ)[i]?).join = if i ∈ vs then (ρ0[i]?).join else (ρ[i]?).join := by
  unfold backE
  rw [over_get, Nat.zero_add]
  cases e : ρ[i]? with
  | none =>
    have e0 : ρ0[i]? = none := by
      rw [List.getElem?_eq_none_iff] at e ⊢
      omega
    simp [e0]
  | some x =>
    by_cases h : i ∈ vs
    · simp [h]
    · simp [h]
theorem wipe_in {σ : L2.St} {i : Nat} : ∀ {vs : List Nat}, i ∈ vs → (wipe σ vs)[i]? = if i < σ.length then some none else none
  | v :: vs, h => by
    unfold wipe
    rw [set_getV]
    by_cases hv : i = v
    · rw [if_pos hv, wipe_length]
    · rw [if_neg hv]
      rcases List.mem_cons.mp h with z | z
      · exact absurd z hv
      · exact wipe_in z
theorem wipe_chg {vs us : List Nat} {σ σ' : L2.St} (c : Chg us σ σ') (h : ∀ i ∈ us, i ∈ vs) : wipe σ' vs = wipe σ vs := by
  refine List.ext_getElem? fun i => ?_
  by_cases hi : i ∈ vs
  · rw [wipe_in hi, wipe_in hi, c.1]
  · rw [wipe_out hi, wipe_out hi]
    exact c.2 i fun z => hi (h i z)
theorem wipe_wipe {vs : List Nat} {σ : L2.St} : wipe (wipe σ vs) vs = wipe σ vs := by
  refine List.ext_getElem? fun i => ?_
  by_cases hi : i ∈ vs
  · rw [wipe_in hi, wipe_in hi, wipe_length]
  · rw [wipe_out hi]
theorem St.wipe {K : PySem.W.Frag} {F H : Hp} {ρ : Ev} {σ : L2.St} (vs : List Nat) (S : St K F ρ σ H) : St K F (wipeE vs ρ) (L2.wipe σ vs) H := by
  refine ⟨by unfold wipeE; rw [over_len, wipe_length]; exact S.len, S.le, fun i s hs => ?_, fun i j s t a hi hj ms mt ei ej => ?_, S.tb, S.nt⟩
  · obtain ⟨h1, h2⟩ := wipeE_get.mp hs
    obtain ⟨v, e, ok⟩ := S.slot i s h2
    exact ⟨v, by rw [wipe_out h1]; exact e, ok⟩
  · obtain ⟨h1, h2⟩ := wipeE_get.mp hi
    obtain ⟨g1, g2⟩ := wipeE_get.mp hj
    rw [wipe_out h1] at ei
    rw [wipe_out g1] at ej
    exact S.inj i j s t a h2 g2 ms mt ei ej
theorem Mu.wipe {ρ : Ev} {σ : L2.St} {vs : List Nat} {b : Addr} (m : Mu (wipeE vs ρ) (L2.wipe σ vs) b) : Mu ρ σ b := by
  obtain ⟨i, s, hs, ms, e⟩ := m
  obtain ⟨h1, h2⟩ := wipeE_get.mp hs
  rw [wipe_out h1] at e
  exact ⟨i, s, h2, ms, e⟩

/-! ### the heap without the list that is made -/
def era (A : Addr) (H : Hp) : Hp := fun b => if b = A then none else H b
theorem era_ne {A b : Addr} {H : Hp} (h : b ≠ A) : era A H b = H b := if_neg h
theorem era_self {A : Addr} {H : Hp} : era A H A = none := if_pos rfl
theorem era_some {A b : Addr} {H : Hp} {o : HO} (h : era A H b = some o) : b ≠ A ∧ H b = some o := by
  by_cases hb : b = A
  · subst hb; rw [era_self] at h; cases h
  · rw [era_ne hb] at h; exact ⟨hb, h⟩
theorem era_upd {A : Addr} {H : Hp} {o : HO} : era A (upd H A o) = era A H := by
  funext b
  by_cases hb : b = A
  · subst hb; rw [era_self, era_self]
  · rw [era_ne hb, era_ne hb, upd_ne hb]
theorem era_none {A : Addr} {H : Hp} (h : H A = none) : era A H = H := by
  funext b
  by_cases hb : b = A
  · subst hb; rw [era_self, h]
  · rw [era_ne hb]
theorem NO.era {A b : Addr} {H : Hp} (h : b ≠ A) : NO (Pu.era A H) b ↔ NO H b := by
  unfold NO
  rw [era_ne h]
theorem St.uner {K : PySem.W.Frag} {F H : Hp} {ρ : Ev} {σ : L2.St} {A : Addr} (S : St K F ρ σ (era A H)) : St K F ρ σ H := by
  refine ⟨S.len, fun b o h => (era_some (S.le b o h)).2, fun i s hs => ?_, S.inj, S.tb.ext (fun b o h => (era_some h).2), S.nt⟩
  obtain ⟨v, e, ok⟩ := S.slot i s hs
  refine ⟨v, e, ?_⟩
  cases s with
  | frz d => exact ok
  | obj d => exact ok
  | own xs =>
    obtain ⟨a, vs, h1, h2, h3⟩ := ok
    exact ⟨a, vs, h1, (era_some h2).2, h3⟩
  | io xs =>
    obtain ⟨a, vs, h1, h2, h3⟩ := ok
    exact ⟨a, vs, h1, (era_some h2).2, h3⟩
theorem StpE.era {K : PySem.W.Frag} {F F' H H' : Hp} {ρ ρ' : Ev} {σ : L2.St} {A : Addr} (S : St K F ρ σ (era A H)) (hA : ∃ us, H A = some (.lst us)) (p : StpE K F ρ σ H F' ρ' H') : H' A = H A ∧ StpE K F ρ σ (era A H) F' ρ' (Pu.era A H') := by
  have nm : ¬ Mu ρ σ A := fun m => by
    obtain ⟨⟨vs, e⟩, _⟩ := S.mu_some m
    rw [era_self] at e; cases e
  have hF : F A = none := by
    cases e : F A with
    | none => rfl
    | some o => have z := S.le A o e; rw [era_self] at z; cases z
  have hF' : F' A = none := by
    cases e : F' A with
    | none => rfl
    | some o =>
      rcases p.new A o e with z | z | z
      · rw [hF] at z; cases z
      · obtain ⟨us, e2⟩ := hA
        exact (z.lst e2).elim
      · exact absurd z nm
  have hH' : H' A = H A := by
    obtain ⟨us, e⟩ := hA
    rw [e]
    exact p.keep A _ e nt_lst nm
  have neA : ∀ {b : Addr} {o : HO}, F' b = some o → b ≠ A := fun {b o} h z => by rw [z, hF'] at h; cases h
  have st' := p.st
  refine ⟨hH', ⟨⟨st'.len, fun b o h => by rw [era_ne (neA h)]; exact st'.le b o h, fun i s hs => ?_, st'.inj, by
    obtain ⟨us, e⟩ := hA
    exact tabs_out st'.tb (hH'.trans e) fun b o n h => (era_ne n).trans h, st'.nt⟩, p.le, fun b o h t n => ?_, fun b h => ?_, fun b o h => ?_, p.sl⟩⟩
  · obtain ⟨v, e, ok⟩ := st'.slot i s hs
    refine ⟨v, e, ?_⟩
    cases s with
    | frz d => exact ok
    | obj d => exact ok
    | own xs =>
      obtain ⟨a, vs, h1, h2, h3⟩ := ok
      subst h1
      exact ⟨a, vs, rfl, by rw [era_ne fun z => nm (p.mu ⟨i, _, hs, rfl, by rw [← z]; exact e⟩)]; exact h2, h3⟩
    | io xs =>
      obtain ⟨a, vs, h1, h2, h3⟩ := ok
      subst h1
      exact ⟨a, vs, rfl, by rw [era_ne fun z => nm (p.mu ⟨i, _, hs, rfl, by rw [← z]; exact e⟩)]; exact h2, h3⟩
  · obtain ⟨h1, h2⟩ := era_some h
    rw [era_ne h1]
    exact p.keep b o h2 t n
  · by_cases hb : b = A
    · subst hb; exact .none era_self
    · exact (NO.era hb).mpr (p.dom b ((NO.era hb).mp h))
  · rcases p.new b o h with z | z | z
    · exact .inl z
    · exact .inr (.inl ((NO.era (neA h)).mpr z))
    · exact .inr (.inr z)

/-! ### the turns -/
def noExc {α : Type} (r : Res α) : Res α := match r with
  | .exc _ _ => .bad
  | r => r
def kept (h : Hd) : Option D := match h with
  | .v (.fz d) => some d
  | _ => none
def compRun (vs : List Nat) (tg : Tg) (cond elt : M Hd) : List D → M (List D)
  | [] => fun ρ => .ok [] ρ
  | d :: ds => fun ρ => match asg tg d ρ with
    | none => .bad
    | some ρ1 => (cond ρ1).bind fun hb ρ2 => match asB hb ρ2 with
      | some true => (mEsc elt ρ2).bind fun h ρ3 => match kept h with
        | some e => (compRun vs tg cond elt ds (wipeE vs ρ3)).bind fun es ρ4 => .ok (e :: es) ρ4
        | none => .bad
      | some false => compRun vs tg cond elt ds (wipeE vs ρ2)
      | none => .bad
def mComp (vs : List Nat) (mi : M (List D)) (tg : Tg) (cond elt : M Hd) : M Hd := fun ρ => (mi ρ).bind fun ds ρ1 =>
  if ds.length ≤ lim then (noExc (compRun vs tg cond elt ds (wipeE vs ρ1))).bind fun xs ρ2 => .ok (.v (.fr xs)) (backE vs ρ1 ρ2) else .bad
def Wi.blk (w : Wi) : Wi := { w with W := fun _ _ _ _ => False }
section
variable {w : Wi} {X : Cx}
theorem noExc_ok {α : Type} {r : Res α} {w : Wi} {F H : Hp} {ρ : Ev} {σ : L2.St} {β : Type} {f : α → M β} {Q : β → Ev → Hp → Hp → Prop} (h : Wp w F ρ σ H ((noExc r).bind f) Q) : ∃ a ρ', r = .ok a ρ' ∧ Wp w F ρ σ H (f a ρ') Q := by
  cases r with
  | ok a ρ' => exact ⟨a, ρ', rfl, h⟩
  | exc x ρ' => exact h.elim
  | bad => exact h.elim
/-- one turn's end -/
theorem turn_step {K : PySem.W.Frag} {F F' H H' : Hp} {ρ ρ1 ρ3 : Ev} {σ0 σ2 : L2.St} {vs us : List Nat} (S : St K F ρ (L2.wipe σ0 vs) H) (hw : wipeE vs ρ = ρ) (c : Chg us (L2.wipe σ0 vs) σ2) (hu : ∀ i ∈ us, i ∈ vs) (ρe : ∀ i : Nat, i ∉ vs → (ρ1[i]?).join = (ρ[i]?).join) (mu : ∀ b, Mu ρ1 σ2 b → Mu ρ (L2.wipe σ0 vs) b)
    (p : StpE K F ρ1 σ2 H F' ρ3 H') : StpE K F ρ (L2.wipe σ0 vs) H F' (wipeE vs ρ3) H' := by
  have eσ : L2.wipe σ2 vs = L2.wipe σ0 vs := by rw [wipe_chg c hu, wipe_wipe]
  have S3 := p.st.wipe vs
  rw [eσ] at S3
  refine ⟨S3, p.le, fun b o h t n => p.keep b o h t fun m => n (mu b m), p.dom, fun b o h => ?_, fun i => ?_⟩
  · rcases p.new b o h with z | z | z
    · exact .inl z
    · exact .inr (.inl z)
    · exact .inr (.inr (mu b z))
  · rw [wipeE_join]
    by_cases hi : i ∈ vs
    · rw [if_pos hi, ← hw, wipeE_join, if_pos hi]
      exact SlLe.refl none
    · rw [if_neg hi, ← ρe i hi]
      exact p.sl i
theorem Res.assoc {α β γ : Type} (r : Res α) (f : α → M β) (g : β → M γ) : (r.bind f).bind g = r.bind fun a ρ => (f a ρ).bind g := by
  cases r <;> rfl
theorem put1_ne {i j : Nat} {d : D} {ρ ρ' : Ev} (h : put1 i d ρ = some ρ') (hj : j ≠ i) : ρ'[j]? = ρ[j]? := by
  obtain ⟨x, _, _, e⟩ := put1_some h
  rw [e, List.getElem?_set_ne fun z => hj z.symm]
theorem puts_ne {j : Nat} : ∀ {is : List Nat} {ds : List D} {ρ ρ' : Ev}, puts is ds ρ = some ρ' → j ∉ is → ρ'[j]? = ρ[j]?
  | [], [], _, _, h, _ => by cases h; rfl
  | [], _ :: _, _, _, h, _ => by cases h
  | _ :: _, [], _, _, h, _ => by cases h
  | i :: is, d :: ds, ρ, ρ', h, hj => by
    have h : (put1 i d ρ).bind (puts is ds) = some ρ' := h
    cases e1 : put1 i d ρ with
    | none => rw [e1] at h; cases h
    | some ρ1 =>
      rw [e1] at h
      rw [puts_ne h fun z => hj (List.mem_cons_of_mem _ z), put1_ne e1 fun z => hj (by rw [z]; exact List.mem_cons_self)]
theorem asg_ne {j : Nat} {t : Tg} {d : D} {ρ ρ' : Ev} (h : asg t d ρ = some ρ') (hj : j ∉ t.slots) : ρ'[j]? = ρ[j]? := by
  cases t with
  | n i => exact put1_ne h fun z => hj (by rw [z]; exact List.mem_cons_self)
  | t l =>
    cases d with
    | tuple ds => exact puts_ne h hj
    | list ds => exact puts_ne h hj
    | none => cases h
    | bool _ => cases h
    | int _ => cases h
    | str _ => cases h
    | dict _ => cases h
theorem wipeE_idem {vs : List Nat} {ρ : Ev} : wipeE vs (wipeE vs ρ) = wipeE vs ρ := by
  refine List.ext_getElem? fun i => ?_
  unfold wipeE
  rw [over_get, over_get, Nat.zero_add]
  cases ρ[i]? with
  | none => rfl
  | some x =>
    simp only [Option.map_some]
    cases vs.contains i <;> rfl
theorem back_step {K : PySem.W.Frag} {F1 Fi H1 H' : Hp} {ρ1 ρi : Ev} {σ : L2.St} {vs : List Nat} {A : Addr} {o : HO} (S1 : St K F1 ρ1 σ H1) (hA : H1 A = none) (p : StpE K F1 (wipeE vs ρ1) (L2.wipe σ vs) H1 Fi ρi (era A H')) (hH : H' A = some o) :
    StpE K F1 ρ1 σ H1 Fi (backE vs ρ1 ρi) H' := by
  have hl : ρi.length = ρ1.length := by
    have a := p.st.len
    rw [wipe_length] at a
    rw [a, S1.len]
  have get : ∀ {i : Nat} {s : Sl}, (backE vs ρ1 ρi)[i]? = some (some s) → (i ∈ vs ∧ ρ1[i]? = some (some s)) ∨ (i ∉ vs ∧ ρi[i]? = some (some s)) := fun {i s} h => by
    have z := join_some.mpr h
    rw [backE_join hl] at z
    by_cases hi : i ∈ vs
    · rw [if_pos hi] at z; exact .inl ⟨hi, join_some.mp z⟩
    · rw [if_neg hi] at z; exact .inr ⟨hi, join_some.mp z⟩
  -- a slot that was hidden
  have hid : ∀ {i : Nat} {s : Sl} {a : Addr}, i ∈ vs → ρ1[i]? = some (some s) → s.mu = true → σ[i]? = some (some (.ref a)) → ¬ Mu (wipeE vs ρ1) (L2.wipe σ vs) a := fun {i s a} hi hs ms e m => by
    obtain ⟨j, t, ht, mt, et⟩ := m
    obtain ⟨h1, h2⟩ := wipeE_get.mp ht
    rw [wipe_out h1] at et
    exact h1 (S1.inj i j s t a hs h2 ms mt e et ▸ hi)
  have hidA : ∀ {i : Nat} {s : Sl} {a : Addr} {us : List V}, i ∈ vs → ρ1[i]? = some (some s) → s.mu = true → σ[i]? = some (some (.ref a)) → H1 a = some (.lst us) → F1 a = none → H' a = some (.lst us) ∧ Fi a = none := fun {i s a us} hi hs ms e h1 hF => by
    have nm := hid hi hs ms e
    refine ⟨(era_some (p.keep a _ h1 nt_lst nm)).2, ?_⟩
    cases eF : Fi a with
    | none => rfl
    | some o =>
      rcases p.new a o eF with z | z | z
      · rw [hF] at z; cases z
      · exact (z.lst h1).elim
      · exact absurd z nm
  refine ⟨⟨by unfold backE; rw [over_len, hl]; exact S1.len, fun b o h => (era_some (p.st.le b o h)).2, fun i s hs => ?_, fun i j s t a hi hj ms mt ei ej => ?_, p.st.tb.ext (fun b o h => (era_some h).2), p.st.nt⟩, p.le, fun b o h t n => ?_, fun b h => ?_, fun b o h => ?_, fun i => ?_⟩
  · rcases get hs with ⟨hi, hs⟩ | ⟨hi, hs⟩
    · obtain ⟨v, e, ok⟩ := S1.slot i s hs
      refine ⟨v, e, ?_⟩
      cases s with
      | frz d => exact Rp.mono p.le _ _ ok
      | obj d => exact ok
      | own xs =>
        obtain ⟨a, us, h1, h2, h3, h4⟩ := ok
        subst h1
        obtain ⟨g1, g2⟩ := hidA hi hs rfl e h2 h3
        exact ⟨a, us, rfl, g1, g2, RpAll.mono p.le _ _ h4⟩
      | io xs =>
        obtain ⟨a, us, h1, h2, h3, h4⟩ := ok
        subst h1
        obtain ⟨g1, g2⟩ := hidA hi hs rfl e h2 h3
        exact ⟨a, us, rfl, g1, g2, RpAll.mono p.le _ _ h4⟩
    · obtain ⟨v, e, ok⟩ := p.st.uner.slot i s hs
      rw [wipe_out hi] at e
      exact ⟨v, e, ok⟩
  · rcases get hi with ⟨gi, hi⟩ | ⟨gi, hi⟩
    · rcases get hj with ⟨gj, hj⟩ | ⟨gj, hj⟩
      · exact S1.inj i j s t a hi hj ms mt ei ej
      · exact absurd (p.mu ⟨j, t, hj, mt, by rw [wipe_out gj]; exact ej⟩) (hid gi hi ms ei)
    · rcases get hj with ⟨gj, hj⟩ | ⟨gj, hj⟩
      · exact absurd (p.mu ⟨i, s, hi, ms, by rw [wipe_out gi]; exact ei⟩) (hid gj hj mt ej)
      · exact p.st.inj i j s t a hi hj ms mt (by rw [wipe_out gi]; exact ei) (by rw [wipe_out gj]; exact ej)
  · exact (era_some (p.keep b o h t fun m => n m.wipe)).2
  · by_cases hb : b = A
    · subst hb; exact .none hA
    · exact p.dom b ((NO.era hb).mpr h)
  · exact (p.new b o h).imp id (Or.imp id Mu.wipe)
  · rw [backE_join hl]
    by_cases hi : i ∈ vs
    · rw [if_pos hi]; exact SlLe.refl _
    · rw [if_neg hi]
      have z := p.sl i
      rw [wipeE_join, if_neg hi] at z
      exact z
theorem kept_some {h : Hd} {e : D} (k : kept h = some e) : h = .v (.fz e) := by
  unfold kept at k
  split at k
  · cases k; rfl
  · cases k
theorem comp_in {vs : List Nat} {mi : M (List D)} {tg : Tg} {cond elt : M Hd} {σ : L2.St} {H : Hp} {Q : VK} (hs : ∀ i ∈ tg.slots, i ∈ vs) (h : tK w (mComp vs mi tg cond elt) σ H Q) : tLc (tI w mi) (tG w.blk tg) (tT w.blk cond) (tK w.blk (mEsc elt)) vs σ H Q := by
  obtain ⟨F, ρ, S, h⟩ := h
  refine ⟨F, ρ, S, (Wp.bind S h).mono fun ds ρ1 F1 H1 ⟨p, q⟩ J hJ A hA => ?_⟩
  split at q
  case isFalse => exact q.elim
  rename_i hlim
  obtain ⟨xs0, ρ0, e0, q⟩ := noExc_ok q
  have S1 := p.st
  have Sw := S1.wipe vs
  have eE : era A (upd H1 A (.lst [])) = H1 := by rw [era_upd, era_none hA]
  let W : Nat → Nat → Hp → Prop := fun i m H' => m = ds.length - i ∧ i ≤ ds.length ∧ ∃ Fi ρi acc accV, StpE w.K F1 (wipeE vs ρ1) (L2.wipe σ vs) H1 Fi ρi (era A H') ∧ wipeE vs ρi = ρi ∧ H' A = some (.lst accV) ∧ RpAll w.K Fi accV acc ∧ acc.length ≤ i ∧
    (compRun vs tg cond elt (ds.drop i) ρi).bind (fun es ρ' => .ok (acc ++ es) ρ') = .ok xs0 ρ0
  refine ⟨W, ⟨ds.length, by simp, Nat.zero_le _, F1, wipeE vs ρ1, [], [], by rw [eE]; exact .refl Sw, wipeE_idem, upd_same, .nil, Nat.le_refl _, ?_⟩, ?_⟩
  · rw [List.drop_zero, e0]; rfl
  rintro i m H' ⟨rfl, hi, Fi, ρi, acc, accV, pi, hwi, hHA, hr, hacc, heq⟩
  have Si : St w.K Fi ρi (L2.wipe σ vs) H' := pi.st.uner
  have sF1 : Sub F1 H' := pi.le.trans Si.le
  have hHA' : ∃ us, H' A = some (.lst us) := ⟨_, hHA⟩
  by_cases hlt : i < ds.length
  · refine .inr ⟨hJ.go i H' sF1 hlt, W (i + 1) (ds.length - (i + 1)), fun H'' h => ⟨_, by omega, h⟩, fun x H2 hy => ?_⟩
    obtain ⟨d, hd⟩ := at_some hlt
    obtain ⟨F2, mk⟩ := hJ.yld i d x H' H2 Fi pi.le Si.le hd hy
    have p2 := Si.made mk
    obtain ⟨hA2, p2e⟩ := StpE.era pi.st hHA' p2
    have hdrop : ds.drop i = d :: ds.drop (i + 1) := by
      rw [List.drop_eq_getElem_cons hlt]
      rw [List.getElem?_eq_getElem hlt] at hd
      cases hd; rfl
    rw [hdrop] at heq
    unfold compRun at heq
    cases ea : asg tg d ρi with
    | none => rw [ea] at heq; cases heq
    | some ρa =>
      rw [ea] at heq
      refine ⟨F2, ρi, d, ρa, p2.st, mk.rv, ea, fun σ2 S2 c2 mu2 => ⟨by rw [wipe_chg c2 hs, wipe_wipe], ?_⟩⟩
      refine ⟨F2, ρa, S2, ?_⟩
      have ρe : ∀ j : Nat, j ∉ vs → (ρa[j]?).join = (ρi[j]?).join := fun j hj => by rw [asg_ne ea fun z => hj (hs j z)]
      have hA2' : ∃ us, H2 A = some (.lst us) := by rw [hA2]; exact hHA'
      have fin : ∀ {F3 H3 : Hp} {ρ3 : Ev}, StpE w.K F2 ρa σ2 H2 F3 ρ3 H3 → H3 A = some (.lst accV) ∧ StpE w.K F1 (wipeE vs ρ1) (L2.wipe σ vs) H1 F3 (wipeE vs ρ3) (era A H3) := fun {F3 H3 ρ3} p3 => by
        have t := turn_step p2.st hwi c2 hs ρe mu2 p3
        obtain ⟨g1, g2⟩ := StpE.era p2e.st hA2' t
        exact ⟨by rw [g1, hA2, hHA], (pi.trans Sw p2e).trans Sw g2⟩
      have heq : (((cond ρa).bind fun hb ρ2 => match asB hb ρ2 with
        | some true => (mEsc elt ρ2).bind fun h ρ3 => match kept h with
          | some e => (compRun vs tg cond elt (ds.drop (i + 1)) (wipeE vs ρ3)).bind fun es ρ4 => .ok (e :: es) ρ4
          | none => .bad
        | some false => compRun vs tg cond elt (ds.drop (i + 1)) (wipeE vs ρ2)
        | none => .bad).bind fun es ρ' => .ok (acc ++ es) ρ') = .ok xs0 ρ0 := heq
      cases ec : cond ρa with
      | bad => rw [ec] at heq; cases heq
      | exc x ρx => rw [ec] at heq; cases heq
      | ok hb ρb =>
        rw [ec] at heq
        intro F3 H3 p3
        have heq : ((match asB hb ρb with
          | some true => (mEsc elt ρb).bind fun h ρ3 => match kept h with
            | some e => (compRun vs tg cond elt (ds.drop (i + 1)) (wipeE vs ρ3)).bind fun es ρ4 => .ok (e :: es) ρ4
            | none => .bad
          | some false => compRun vs tg cond elt (ds.drop (i + 1)) (wipeE vs ρb)
          | none => .bad : Res (List D)).bind fun es ρ' => .ok (acc ++ es) ρ') = .ok xs0 ρ0 := heq
        cases eb : asB hb ρb with
        | none => rw [eb] at heq; cases heq
        | some b =>
          rw [eb] at heq
          refine ⟨b, asB_some eb, ?_⟩
          obtain ⟨hA3, t3⟩ := fin p3
          cases b with
          | false => exact ⟨rfl, hlt, F3, wipeE vs ρb, acc, accV, t3, wipeE_idem, hA3, RpAll.mono (p2.le.trans p3.le) _ _ hr, Nat.le_succ_of_le hacc, heq⟩
          | true =>
            refine ⟨F3, ρb, p3.st, ?_⟩
            have heq : ((mEsc elt ρb).bind fun h ρ3 => match kept h with
              | some e => (compRun vs tg cond elt (ds.drop (i + 1)) (wipeE vs ρ3)).bind fun es ρ4 => .ok (e :: es) ρ4
              | none => .bad).bind (fun es ρ' => .ok (acc ++ es) ρ') = .ok xs0 ρ0 := heq
            cases em : mEsc elt ρb with
            | bad => rw [em] at heq; cases heq
            | exc x ρx => rw [em] at heq; cases heq
            | ok k ρk =>
              rw [em] at heq
              have heq : ((match kept k with
                | some e => (compRun vs tg cond elt (ds.drop (i + 1)) (wipeE vs ρk)).bind fun es ρ4 => .ok (e :: es) ρ4
                | none => .bad : Res (List D)).bind fun es ρ' => .ok (acc ++ es) ρ') = .ok xs0 ρ0 := heq
              intro F4 H4 p4 v hv
              cases ek : kept k with
              | none => rw [ek] at heq; cases heq
              | some e =>
                rw [ek] at heq
                rw [kept_some ek] at hv
                have hv : Rp w.K F4 v e := hv
                obtain ⟨hA4, t4⟩ := fin (p3.trans S2 p4)
                have heq : ((compRun vs tg cond elt (ds.drop (i + 1)) (wipeE vs ρk)).bind fun es ρ4 => .ok (e :: es) ρ4).bind (fun es ρ' => .ok (acc ++ es) ρ') = .ok xs0 ρ0 := heq
                rw [Res.assoc] at heq
                refine ⟨accV, hA4, by rw [hr.length, sizeLine_eq]; have z : ds.length ≤ 16777216 := hlim; omega, rfl, hlt, F4, wipeE vs ρk, acc ++ [e], accV ++ [v], by rw [era_upd]; exact t4, wipeE_idem, upd_same, (RpAll.mono (p2.le.trans (p3.le.trans p4.le)) _ _ hr).append (.cons hv .nil), by rw [List.length_append]; exact Nat.succ_le_succ hacc, ?_⟩
                rw [← heq]
                congr 1
                funext es ρ'
                show Res.ok (acc ++ [e] ++ es) ρ' = Res.ok (acc ++ (e :: es)) ρ'
                rw [List.append_assoc]; rfl
  · have hi' : i = ds.length := by omega
    subst hi'
    refine .inl ⟨hJ.stop H' sF1, ?_⟩
    rw [List.drop_length] at heq
    have heq : Res.ok (acc ++ []) ρi = Res.ok xs0 ρ0 := heq
    rw [List.append_nil] at heq
    cases heq
    exact q Fi H' (back_step S1 hA pi hHA) (.ref A) ⟨A, accV, rfl, p.dom A (.none hA), hHA, (by
      cases e : Fi A with
      | none => rfl
      | some o => have z := pi.st.le A o e; rw [era_self] at z; cases z), hr⟩
end
end Pu
set_option Elab.async false
set_option linter.all false
set_option maxRecDepth 100000
set_option maxHeartbeats 1000000
/-! Pu8: the pure layer: statements. -/
namespace Pu
open PySem L2 PyProof.Rows
inductive Fl where
  | next
  | brk
  | cont
  | ret (r : RV)
structure StpS (K : PySem.W.Frag) (F : Hp) (ρ : Ev) (σ : L2.St) (H : Hp) (F' : Hp) (ρ' : Ev) (σ' : L2.St) (H' : Hp) : Prop where
  st : St K F' ρ' σ' H'
  le : Sub F F'
  keep : ∀ b o, H b = some o → NT o → ¬ Mu ρ σ b → H' b = some o
  dom : ∀ b, NO H' b → NO H b
  new : ∀ b o, F' b = some o → F b = some o ∨ NO H b ∨ Mu ρ σ b
  mu : ∀ b, Mu ρ' σ' b → Mu ρ σ b ∨ NO H b
  io : ∀ (i : Nat) xs, ρ[i]? = some (some (.io xs)) → (∃ ys, ρ'[i]? = some (some (.io ys))) ∧ σ'[i]? = σ[i]?
section
variable {K : PySem.W.Frag} {F F1 F2 H H1 H2 : Hp} {ρ ρ1 ρ2 : Ev} {σ σ1 σ2 : L2.St}
theorem StpE.toS (p : StpE K F ρ σ H F1 ρ1 H1) : StpS K F ρ σ H F1 ρ1 σ H1 := by
  refine ⟨p.st, p.le, p.keep, p.dom, p.new, fun b m => .inl (p.mu m), fun i xs h => ⟨?_, rfl⟩⟩
  have z := p.sl i
  rw [join_some.mpr h] at z
  obtain ⟨ys, z⟩ := z
  exact ⟨ys, join_some.mp z⟩
theorem StpS.refl (S : St K F ρ σ H) : StpS K F ρ σ H F ρ σ H := (StpE.refl S).toS
theorem StpS.trans (p : StpS K F ρ σ H F1 ρ1 σ1 H1) (q : StpS K F1 ρ1 σ1 H1 F2 ρ2 σ2 H2) : StpS K F ρ σ H F2 ρ2 σ2 H2 := by
  refine ⟨q.st, p.le.trans q.le, fun b o h t n => q.keep b o (p.keep b o h t n) t fun m => ?_, fun b h => p.dom b (q.dom b h), fun b o h => ?_, fun b m => ?_, fun i xs h => ?_⟩
  · rcases p.mu b m with z | z
    · exact n z
    · exact (z o h t).elim
  · rcases q.new b o h with h | h | h
    · exact p.new b o h
    · exact .inr (.inl (p.dom b h))
    · exact .inr ((p.mu b h).symm)
  · rcases q.mu b m with z | z
    · exact p.mu b z
    · exact .inr (p.dom b z)
  · obtain ⟨⟨ys, h1⟩, e1⟩ := p.io i xs h
    obtain ⟨h2, e2⟩ := q.io i ys h1
    exact ⟨h2, e2.trans e1⟩
end
/-- the value that is returned, seen from an earlier state -/
def RtOk (K : PySem.W.Frag) (F' : Hp) (ρ : Ev) (σ : L2.St) (H H' : Hp) (v : V) : RV → Prop
  | .fz d => Rp K F' v d
  | .fr xs => ∃ a vs, v = .ref a ∧ (NO H a ∨ ∃ (i : Nat) (ys : List D), ρ[i]? = some (some (.own ys)) ∧ σ[i]? = some (some (.ref a))) ∧ H' a = some (.lst vs) ∧ F' a = none ∧ RpAll K F' vs xs
theorem RVok.rt {K : PySem.W.Frag} {F' H H' : Hp} {ρ : Ev} {σ : L2.St} {v : V} {r : RV} (h : RVok K F' H H' v r) : RtOk K F' ρ σ H H' v r := by
  cases r with
  | fz d => exact h
  | fr xs =>
    obtain ⟨a, vs, e, h0, h1, h2, h3⟩ := h
    exact ⟨a, vs, e, .inl h0, h1, h2, h3⟩
theorem RtOk.back {K : PySem.W.Frag} {F F1 F' H H1 H' : Hp} {ρ ρ1 : Ev} {σ σ1 : L2.St} {v : V} {r : RV} (p : StpS K F ρ σ H F1 ρ1 σ1 H1) (h : RtOk K F' ρ1 σ1 H1 H' v r) : RtOk K F' ρ σ H H' v r := by
  cases r with
  | fz d => exact h
  | fr xs =>
    obtain ⟨a, vs, e, h0, h1, h2, h3⟩ := h
    refine ⟨a, vs, e, ?_, h1, h2, h3⟩
    rcases h0 with h0 | ⟨i, ys, g1, g2⟩
    · exact .inl (p.dom a h0)
    · rcases p.mu a ⟨i, _, g1, rfl, g2⟩ with ⟨j, s, k1, k2, k3⟩ | z
      · cases s with
        | frz d => cases k2
        | obj d => cases k2
        | own zs => exact .inr ⟨j, zs, k1, k3⟩
        | io zs =>
          obtain ⟨⟨us, e1⟩, e2⟩ := p.io j zs k1
          have ij := p.st.inj i j _ _ a g1 e1 rfl rfl g2 (e2.trans k3)
          subst ij
          rw [g1] at e1; cases e1
      · exact .inl z
def WpS (w : Wi) (F : Hp) (ρ : Ev) (σ : L2.St) (H : Hp) (r : Res Fl) (D : Ends) : Prop := match r with
  | .ok .next ρ' => ∀ σ' F' H', StpS w.K F ρ σ H F' ρ' σ' H' → D.nx σ' H'
  | .ok .brk ρ' => ∀ σ' F' H', StpS w.K F ρ σ H F' ρ' σ' H' → D.bk σ' H'
  | .ok .cont ρ' => ∀ σ' F' H', StpS w.K F ρ σ H F' ρ' σ' H' → D.ct σ' H'
  | .ok (.ret r) ρ' => ∀ v σ' F' H', StpS w.K F ρ σ H F' ρ' σ' H' → RtOk w.K F' ρ σ H H' v r → D.rt v H'
  | .exc x ρ' => ∀ cls d σ' F' H', StpS w.K F ρ σ H F' ρ' σ' H' → w.XR x cls d H' → w.W cls d σ' H'
  | .bad => False
def tS (w : Wi) (m : M Fl) : TS := fun D σ H => ∃ F ρ, St w.K F ρ σ H ∧ WpS w F ρ σ H (m ρ) D
section
variable {w : Wi} {X : Cx} {F F1 H H1 : Hp} {ρ ρ1 : Ev} {σ σ1 : L2.St}
/-- a later state's wish, from an earlier one's -/
theorem WpS.later {r : Res Fl} {D : Ends} (p : StpS w.K F ρ σ H F1 ρ1 σ1 H1) (h : WpS w F ρ σ H r D) : WpS w F1 ρ1 σ1 H1 r D := by
  match r, h with
  | .ok .next ρ', h => exact fun σ' F' H' q => h σ' F' H' (p.trans q)
  | .ok .brk ρ', h => exact fun σ' F' H' q => h σ' F' H' (p.trans q)
  | .ok .cont ρ', h => exact fun σ' F' H' q => h σ' F' H' (p.trans q)
  | .ok (.ret r) ρ', h => exact fun v σ' F' H' q rv => h v σ' F' H' (p.trans q) (rv.back p)
  | .exc x ρ', h => exact fun cls d σ' F' H' q hx => h cls d σ' F' H' (p.trans q) hx
  | .bad, h => exact h.elim
def mThen (a b : M Fl) : M Fl := fun ρ => (a ρ).bind fun f ρ1 => match f with
  | .next => b ρ1
  | f => .ok f ρ1
def mBlk : List (M Fl) → M Fl
  | [] => fun ρ => .ok .next ρ
  | m :: ms => mThen m (mBlk ms)
theorem ss_nil : PSs X [] (tS w (mBlk [])) := PSsimp pss_nil fun D σ H ⟨F, ρ, S, h⟩ => h σ F H (.refl S)
theorem ss_cons {st : Stmt} {rest : List Stmt} {m : M Fl} {ms : List (M Fl)} (h1 : PS X st (tS w m)) (h2 : PSs X rest (tS w (mBlk ms))) : PSs X (st :: rest) (tS w (mBlk (m :: ms))) := by
  refine PSsimp (pss_cons h1 h2) fun D σ H ⟨F, ρ, S, h⟩ => ⟨F, ρ, S, ?_⟩
  have h : WpS w F ρ σ H (mThen m (mBlk ms) ρ) D := h
  unfold mThen at h
  cases e : m ρ with
  | bad => rw [e] at h; exact h
  | exc x ρ1 => rw [e] at h; exact h
  | ok f ρ1 =>
    rw [e] at h
    cases f with
    | next => exact fun σ' F' H' p => ⟨F', ρ1, p.st, WpS.later p h⟩
    | brk => exact h
    | cont => exact h
    | ret r => exact h
/-- an expression ahead of a statement's end -/
theorem WpS.bind {α : Type} {r : Res α} {f : α → M Fl} {D : Ends} (h : WpS w F ρ σ H (r.bind f) D) : Wp w F ρ σ H r fun a ρ1 F1 H1 => StpE w.K F ρ σ H F1 ρ1 H1 ∧ WpS w F1 ρ1 σ H1 (f a ρ1) D := by
  cases r with
  | bad => exact h
  | exc x ρ1 => exact fun F' H' cls d p hx => h cls d σ F' H' p.toS hx
  | ok a ρ1 => exact fun F1 H1 p => ⟨p, WpS.later p.toS h⟩
def mIfS (c : M Hd) (a b : M Fl) : M Fl := mIf c a b
theorem WpS.if {h : Hd} {a b : M Fl} {D : Ends} (q : WpS w F ρ σ H (match asB h ρ with | some true => a ρ | some false => b ρ | none => .bad) D) : ∃ k, rd h ρ = some (.bool k) ∧ WpS w F ρ σ H (if k = true then a ρ else b ρ) D := by
  split at q
  · rename_i e; exact ⟨true, asB_some e, q⟩
  · rename_i e; exact ⟨false, asB_some e, q⟩
  · exact q.elim
theorem ss_if {c : Expr} {a b : List Stmt} {pos : Pos} {mc : M Hd} {ma mb : M Fl} (hc : PT X c (tT w mc)) (ha : PSs X a (tS w ma)) (hb : PSs X b (tS w mb)) : PS X (.If c a b pos) (tS w (mIfS mc ma mb)) := by
  refine PSimp (ps_if hc ha hb) fun D σ H ⟨F, ρ, S, h⟩ => ⟨F, ρ, S, (WpS.bind h).mono fun k ρ1 F1 H1 ⟨p, q⟩ => ?_⟩
  obtain ⟨k, e, q⟩ := WpS.if q
  refine ⟨k, e, ?_⟩
  cases k with
  | true => exact ⟨F1, ρ1, p.st, q⟩
  | false => exact ⟨F1, ρ1, p.st, q⟩
def mFl (f : Fl) : M Fl := fun ρ => .ok f ρ
theorem ss_pass {pos : Pos} : PS X (.Pass pos) (tS w (mFl .next)) := PSimp ps_pass fun D σ H ⟨F, ρ, S, h⟩ => h σ F H (.refl S)
theorem ss_break {pos : Pos} : PS X (.Break pos) (tS w (mFl .brk)) := PSimp ps_break fun D σ H ⟨F, ρ, S, h⟩ => h σ F H (.refl S)
theorem ss_continue {pos : Pos} : PS X (.Continue pos) (tS w (mFl .cont)) := PSimp ps_continue fun D σ H ⟨F, ρ, S, h⟩ => h σ F H (.refl S)
theorem ss_doc {x j pos pos'} : PS X (.Expr (.Constant (.str x) j pos) pos') (tS w (mFl .next)) := PSimp ps_doc fun D σ H ⟨F, ρ, S, h⟩ => h σ F H (.refl S)
theorem ss_retN {pos : Pos} : PS X (.Return none pos) (tS w (mFl (.ret (.fz .none)))) := PSimp ps_retN fun D σ H ⟨F, ρ, S, h⟩ => h .non σ F H (.refl S) Rp.non
/-- return e: a list of one's own goes to the caller -/
def retOf (h : Hd) : M Fl := fun ρ => match h with
  | .v r => .ok (.ret r) ρ
  | .s i => match ρ[i]?.join with
    | some (.frz d) => .ok (.ret (.fz d)) ρ
    | some (.own xs) => .ok (.ret (.fr xs)) ρ
    | _ => .bad
def mRet (m : M Hd) : M Fl := fun ρ => (m ρ).bind retOf
theorem ss_ret {e : Expr} {pos : Pos} {m : M Hd} (he : PE X e (tK w m)) : PS X (.Return (some e) pos) (tS w (mRet m)) := by
  refine PSimp (ps_ret he) fun D σ H ⟨F, ρ, S, h⟩ => ⟨F, ρ, S, ?_⟩
  unfold mRet at h
  cases e1 : m ρ with
  | bad => rw [e1] at h; exact h
  | exc x ρ1 => rw [e1] at h; exact fun F' H' cls d p hx => h cls d σ F' H' p.toS hx
  | ok k ρ1 =>
    rw [e1] at h
    intro F1 H1 p v hv
    have h : WpS w F ρ σ H (retOf k ρ1) D := h
    unfold retOf at h
    cases k with
    | v r => exact h v σ F1 H1 p.toS hv.rt
    | s i =>
      have q := WpS.later p.toS h
      obtain ⟨ei, s, hs⟩ := hv
      simp only [join_some.mpr hs] at q
      cases s with
      | frz d =>
        obtain ⟨v', ev', ok⟩ := p.st.slot i _ hs
        rw [ei] at ev'; cases ev'
        exact q v σ F1 H1 (.refl p.st) ok
      | own xs =>
        obtain ⟨v', ev', ok⟩ := p.st.slot i _ hs
        rw [ei] at ev'; cases ev'
        obtain ⟨a, vs, rfl, h1, h2, h3⟩ := ok
        exact q (.ref a) σ F1 H1 (.refl p.st) ⟨a, vs, rfl, .inr ⟨i, xs, hs, ei⟩, h1, h2, h3⟩
      | io xs => exact q.elim
      | obj u => exact q.elim

/-! ### names stored -/
def ofRV : RV → Sl
  | .fz d => .frz d
  | .fr xs => .own xs
def put (i : Nat) (r : RV) (ρ : Ev) : Option Ev := match ρ[i]? with
  | some (some (.io _)) => none
  | some _ => some (ρ.set i (some (ofRV r)))
  | none => none
theorem put_some {i : Nat} {r : RV} {ρ ρ' : Ev} (h : put i r ρ = some ρ') : ∃ x, ρ[i]? = some x ∧ (∀ xs, x ≠ some (.io xs)) ∧ ρ' = ρ.set i (some (ofRV r)) := by
  unfold put at h
  split at h
  · cases h
  · rename_i x n e
    cases h
    exact ⟨x, e, fun xs z => n xs (by rw [z]), rfl⟩
  · cases h
/-- a value's place in a slot: it is shared, or it is a list of no one's -/
def Own1 (K : PySem.W.Frag) (F : Hp) (ρ : Ev) (σ : L2.St) (H : Hp) (v : V) : RV → Prop
  | .fz d => Rp K F v d
  | .fr xs => ∃ a vs, v = .ref a ∧ H a = some (.lst vs) ∧ F a = none ∧ ¬ Mu ρ σ a ∧ RpAll K F vs xs
theorem St.putR {K : PySem.W.Frag} {i : Nat} {r : RV} {v : V} {x : Option Sl} (S : St K F ρ σ H) (hi : ρ[i]? = some x) (o : Own1 K F ρ σ H v r) : St K F (ρ.set i (some (ofRV r))) (σ.set i (some v)) H := by
  cases r with
  | fz d => exact S.put hi o
  | fr xs =>
    obtain ⟨a, vs, rfl, h1, h2, h3, h4⟩ := o
    have hl : i < σ.length := by rw [← S.len]; exact (List.getElem?_eq_some_iff.mp hi).1
    refine ⟨by rw [List.length_set, List.length_set]; exact S.len, S.le, fun j s hs => ?_, fun j k s t b hj hk ms mt ej ek => ?_, S.tb, S.nt⟩
    · rcases set_get hs with ⟨z, e⟩ | ⟨z, hs⟩
      · subst z; cases e
        exact ⟨.ref a, by rw [set_getV, if_pos rfl, if_pos hl], a, vs, rfl, h1, h2, h4⟩
      · obtain ⟨u, e, ok⟩ := S.slot j s hs
        exact ⟨u, by rw [set_getV, if_neg z]; exact e, ok⟩
    · rcases set_get hj with ⟨z, e⟩ | ⟨z, hj'⟩
      · rcases set_get hk with ⟨z2, e2⟩ | ⟨z2, hk'⟩
        · rw [z, z2]
        · subst z
          rw [set_getV, if_pos rfl, if_pos hl] at ej
          cases ej
          rw [set_getV, if_neg z2] at ek
          exact absurd ⟨k, t, hk', mt, ek⟩ h3
      · rcases set_get hk with ⟨z2, e2⟩ | ⟨z2, hk'⟩
        · subst z2
          rw [set_getV, if_pos rfl, if_pos hl] at ek
          cases ek
          rw [set_getV, if_neg z] at ej
          exact absurd ⟨j, s, hj', ms, ej⟩ h3
        · rw [set_getV, if_neg z] at ej
          rw [set_getV, if_neg z2] at ek
          exact S.inj j k s t b hj' hk' ms mt ej ek
theorem Mu.putR {i : Nat} {r : RV} {v : V} {b : Addr} (m : Mu (ρ.set i (some (ofRV r))) (σ.set i (some v)) b) : Mu ρ σ b ∨ (v = .ref b ∧ ∃ xs, r = .fr xs) := by
  obtain ⟨j, s, hs, ms, e⟩ := m
  rcases set_get hs with ⟨z, e'⟩ | ⟨z, hs⟩
  · subst z
    cases r with
    | fz d => cases e'; cases ms
    | fr xs =>
      rw [set_getV, if_pos rfl] at e
      split at e
      · cases e; exact .inr ⟨rfl, xs, rfl⟩
      · cases e
  · rw [set_getV, if_neg z] at e
    exact .inl ⟨j, s, hs, ms, e⟩
/-- a name is stored behind an expression: (F, ρ, σ, H) is where the statement began -/
theorem put_step {K : PySem.W.Frag} {F F1 H H1 : Hp} {ρ ρ1 ρ2 : Ev} {σ σ1 : L2.St} {i : Nat} {r : RV} {v : V} (p : StpS K F ρ σ H F1 ρ1 σ1 H1) (h : put i r ρ1 = some ρ2) (o : Own1 K F1 ρ1 σ1 H1 v r) (n : ∀ a, v = .ref a → (∃ xs, r = .fr xs) → NO H a) :
    StpS K F ρ σ H F1 ρ2 (σ1.set i (some v)) H1 := by
  obtain ⟨x, h1, h2, h3⟩ := put_some h
  subst h3
  refine ⟨p.st.putR h1 o, p.le, p.keep, p.dom, p.new, fun b m => ?_, fun j xs hj => ?_⟩
  · rcases m.putR with m | ⟨e, q⟩
    · exact p.mu b m
    · exact .inr (n b e q)
  · obtain ⟨⟨ys, g1⟩, g2⟩ := p.io j xs hj
    have ne : i ≠ j := fun z => by
      subst z
      rw [h1] at g1
      exact h2 ys (Option.some.inj g1)
    exact ⟨⟨ys, by rw [List.getElem?_set_ne ne]; exact g1⟩, by rw [List.getElem?_set_ne ne]; exact g2⟩
theorem RVok.own {K : PySem.W.Frag} {r : RV} {v : V} (S : St K F ρ σ H) (p : StpE K F ρ σ H F1 ρ1 H1) (h : RVok K F1 H H1 v r) : Own1 K F1 ρ1 σ H1 v r ∧ ∀ a, v = .ref a → (∃ xs, r = .fr xs) → NO H a := by
  cases r with
  | fz d => exact ⟨h, fun a _ ⟨xs, z⟩ => by cases z⟩
  | fr xs =>
    obtain ⟨a, vs, e, h0, h1, h2, h3⟩ := h
    refine ⟨⟨a, vs, e, h1, h2, fun m => ?_, h3⟩, fun b eb _ => ?_⟩
    · obtain ⟨⟨us, z⟩, _⟩ := S.mu_some (p.mu m)
      exact h0.lst z
    · rw [e] at eb; cases eb; exact h0
def storeOf (i : Nat) (h : Hd) : M Fl := fun ρ => match h with
  | .v r => (match put i r ρ with
    | some ρ' => .ok .next ρ'
    | none => .bad)
  | .s _ => .bad
def mSet (i : Nat) (m : M Hd) : M Fl := fun ρ => (mEsr m ρ).bind (storeOf i)
theorem set_in {i : Nat} {m : M Hd} {D : Ends} (h : tS w (mSet i m) D σ H) : tAsg (tK w (mEsr m)) (gName i) D σ H := by
  obtain ⟨F, ρ, S, h⟩ := h
  refine ⟨F, ρ, S, ?_⟩
  unfold mSet at h
  cases e1 : mEsr m ρ with
  | bad => rw [e1] at h; exact h
  | exc x ρ1 => rw [e1] at h; exact fun F' H' cls d p hx => h cls d σ F' H' p.toS hx
  | ok k ρ1 =>
    rw [e1] at h
    intro F1 H1 p v hv
    have h : WpS w F ρ σ H (storeOf i k ρ1) D := h
    unfold storeOf at h
    cases k with
    | s _ => exact h.elim
    | v r =>
      have hv : RVok w.K F1 H H1 v r := hv
      split at h
      · rename_i r' e
        cases e
        split at h
        · rename_i ρ2 e2
          obtain ⟨o, n⟩ := hv.own S p
          exact h _ F1 H1 (put_step p.toS e2 o n)
        · exact h.elim
      · rename_i e; cases e
theorem ss_set {i : Nat} {x : Str} {e : Expr} {m : M Hd} {pos pos' : Pos} (hN : X.N.Nodup) (hi : X.N[i]? = some x) (hx : Loc X.env.scope x) (he : PE X e (tK w m)) (hs : swapsWith e (some (.Name x pos')) pos.line X.env = pure false) (hf : X.fn x = true ∨ X.env.scope.names.lookup x = some .local) :
    PS X (.Assign [.Name x pos'] e pos) (tS w (mSet i m)) := PSimp (ps_set hN hi hx (se_esr he) hs hf) fun _ _ _ h => set_in h
/-- the same where the value is a comprehension that is stored within its frame -/
theorem esr_v {m : M Hd} {vs : List Nat} {mi : M (List D)} {tg : Tg} {c e : M Hd} (h : m = mComp vs mi tg c e) : mEsr m = m := by
  subst h
  funext ρ
  unfold mEsr mComp
  cases mi ρ with
  | bad => rfl
  | exc x ρ1 => rfl
  | ok ds ρ1 =>
    show Res.bind (if ds.length ≤ lim then _ else _) esr = if ds.length ≤ lim then _ else _
    split
    · cases noExc (compRun vs tg c e ds (wipeE vs ρ1)) <;> rfl
    · rfl
end
end Pu
set_option Elab.async false
set_option linter.all false
set_option maxRecDepth 100000
set_option maxHeartbeats 1000000
/-! Pu9: the pure layer: comprehensions as values, more stores, loops. -/
namespace Pu
open PySem L2 PyProof.Rows
section
variable {w : Wi} {X : Cx} {F F1 H H1 : Hp} {ρ ρ1 : Ev} {σ σ1 : L2.St}
theorem PTsimp {X : Cx} {ifs : List Expr} {t t' : TT} (h : PTs X ifs t) (i : ∀ σ H Q, t' σ H Q → t σ H Q) : PTs X ifs t' := ⟨fun pins s σ H Q I q => h.run pins s σ H Q I (i σ H Q q)⟩
theorem sts_nil : PTs X [] (tT w (mC (.bool true))) := PTsimp pts_nil fun _ _ _ h => tT_C h
theorem sts_one {c : Expr} {m : M Hd} (h : PT X c (tT w m)) : PTs X [c] (tT w m) := pts_one h
theorem se_lc {elt tg iter : Expr} {ifs : List Expr} {scope : Scope} {own : List (Str × Nat)} {pos : Pos} {mi : M (List D)} {t : Tg} {mc me : M Hd} (hc : X.calm = true) (hN : X.N.Nodup) (hi : PI X tg iter (tI w mi)) (ok : BlkOk X.N X.env.scope scope own)
    (hs : ∀ i ∈ t.slots, i ∈ own.map (·.2)) (hg : ∀ (s : Shared) (H : Hp) (C : Addr) (cl : List (Str × Addr)) (fp : List Addr), PG (X.blk s H scope (compEnvC scope cl C X.env) fp) tg (tG w.blk t))
    (ht : ∀ (s : Shared) (H : Hp) (C : Addr) (cl : List (Str × Addr)) (fp : List Addr), PTs (X.blk s H scope (compEnvC scope cl C X.env) fp) ifs (tT w.blk mc))
    (he : ∀ (s : Shared) (H : Hp) (C : Addr) (cl : List (Str × Addr)) (fp : List Addr), PE (X.blk s H scope (compEnvC scope cl C X.env) fp) elt (tK w.blk me)) (hf : ∀ x, foldedSetIterable iter X.env x = pure x) :
    PE X (.ListComp elt [⟨tg, iter, ifs, 0⟩] scope pos) (tK w (mComp (own.map (·.2)) mi t mc me)) :=
  PEimp (pe_lc hc hN hi ok hg ht (fun s H C cl fp => se_esc (he s H C cl fp)) hf) fun _ _ _ h => comp_in hs h
theorem ss_setLc {i : Nat} {y : Str} {py : Pos} {elt tg iter : Expr} {ifs : List Expr} {scope : Scope} {own : List (Str × Nat)} {pos spos : Pos} {mi : M (List D)} {t : Tg} {mc me : M Hd} (hc : X.calm = true) (hN : X.N.Nodup) (hy : X.N[i]? = some y) (hyl : X.env.scope.names.lookup y = some .local)
    (hsw : swapsWith (.ListComp elt [⟨tg, iter, ifs, 0⟩] scope pos) (some (.Name y py)) spos.line X.env = pure true) (hi : PI X tg iter (tI w mi)) (ok : BlkOk X.N X.env.scope scope own)
    (hs : ∀ i ∈ t.slots, i ∈ own.map (·.2)) (hg : ∀ (s : Shared) (H : Hp) (C : Addr) (cl : List (Str × Addr)) (fp : List Addr), PG (X.blk s H scope (compEnvC scope cl C X.env) fp) tg (tG w.blk t))
    (ht : ∀ (s : Shared) (H : Hp) (C : Addr) (cl : List (Str × Addr)) (fp : List Addr), PTs (X.blk s H scope (compEnvC scope cl C X.env) fp) ifs (tT w.blk mc))
    (he : ∀ (s : Shared) (H : Hp) (C : Addr) (cl : List (Str × Addr)) (fp : List Addr), PE (X.blk s H scope (compEnvC scope cl C X.env) fp) elt (tK w.blk me)) (hf : ∀ x, foldedSetIterable iter X.env x = pure x) :
    PS X (.Assign [.Name y py] (.ListComp elt [⟨tg, iter, ifs, 0⟩] scope pos) spos) (tS w (mSet i (mComp (own.map (·.2)) mi t mc me))) := by
  refine PSimp (ps_setLc hc hN hy hyl hsw hi ok hg ht (fun s H C cl fp => se_esc (he s H C cl fp)) hf) fun D σ H h => ?_
  have z := set_in h
  rw [esr_v rfl] at z
  exact comp_in hs z

/-! ### several names at once -/
def pputs : List Nat → List Hd → Ev → Option Ev
  | [], [], ρ => some ρ
  | i :: is, .v r :: hs, ρ => (put i r ρ).bind (pputs is hs)
  | _, _, _ => none
def mPar (is : List Nat) (ms : List (M Hd)) : M Fl := fun ρ => (mArgs ms ρ).bind fun hs ρ1 => match pputs is hs ρ1 with
  | some ρ2 => .ok .next ρ2
  | none => .bad
def sets : List Nat → List V → L2.St → L2.St
  | i :: is, v :: vs, σ => sets is vs (σ.set i (some v))
  | _, _, σ => σ
def OwnAll (K : PySem.W.Frag) (F1 : Hp) (ρ1 : Ev) (σ1 : L2.St) (H H1 : Hp) : List V → List Hd → Prop
  | v :: vs, .v r :: hs => Own1 K F1 ρ1 σ1 H1 v r ∧ (∀ a, v = .ref a → (∃ xs, r = .fr xs) → NO H a) ∧ Apt v (.v r) vs hs ∧ OwnAll K F1 ρ1 σ1 H H1 vs hs
  | _ :: vs, _ :: hs => OwnAll K F1 ρ1 σ1 H H1 vs hs
  | _, _ => True
theorem OwnAll.of {K : PySem.W.Frag} (S : St K F ρ σ H) (p : StpE K F ρ σ H F1 ρ1 H1) : ∀ {vs : List V} {hs : List Hd}, HdsOk K F1 ρ1 σ H H1 vs hs → OwnAll K F1 ρ1 σ H H1 vs hs
  | [], [], _ => trivial
  | v :: vs, .v r :: hs, ⟨a, b, c⟩ =>
    let z := RVok.own S p (show RVok K F1 H H1 v r from a)
    ⟨z.1, z.2, c, OwnAll.of S p b⟩
  | v :: vs, .s i :: hs, ⟨a, b, c⟩ => by unfold OwnAll; exact OwnAll.of S p b
  | [], _ :: _, h => h.elim
  | _ :: _, [], h => h.elim
theorem OwnAll.put {K : PySem.W.Frag} {i : Nat} {r : RV} {v : V} {ρ2 : Ev} (e : put i r ρ1 = some ρ2) : ∀ {vs : List V} {hs : List Hd}, Apt v (.v r) vs hs → OwnAll K F1 ρ1 σ1 H H1 vs hs → OwnAll K F1 ρ2 (σ1.set i (some v)) H H1 vs hs
  | u :: vs, .v q :: hs, ap, ⟨a, b, c, d⟩ => by
    have ap' : Apt v (.v r) vs hs := fun xs ex w ys m => ap xs ex w ys (List.mem_cons_of_mem _ m)
    refine ⟨?_, b, c, OwnAll.put e ap' d⟩
    cases q with
    | fz d => exact a
    | fr ys =>
      obtain ⟨x, us, e1, h1, h2, h3, h4⟩ := a
      refine ⟨x, us, e1, h1, h2, fun m => ?_, h4⟩
      obtain ⟨y, _, _, er⟩ := put_some e
      rw [er] at m
      rcases m.putR with m | ⟨ev, zs, ez⟩
      · exact h3 m
      · exact ap zs (by rw [ez]) u ys List.mem_cons_self (by rw [e1, ev])
  | u :: vs, .s _ :: hs, ap, d => OwnAll.put e (vs := vs) (hs := hs) (fun xs ex w ys m => ap xs ex w ys (List.mem_cons_of_mem _ m)) d
  | [], _, _, _ => by unfold OwnAll; trivial
  | _ :: _, [], _, _ => by unfold OwnAll; trivial
theorem pputs_step {K : PySem.W.Frag} : ∀ {is : List Nat} {vs : List V} {hs : List Hd} {ρ1 ρ2 : Ev} {σ1 : L2.St}, vs.length = hs.length → StpS K F ρ σ H F1 ρ1 σ1 H1 → OwnAll K F1 ρ1 σ1 H H1 vs hs → pputs is hs ρ1 = some ρ2 → vs.length = is.length ∧ StpS K F ρ σ H F1 ρ2 (sets is vs σ1) H1
  | [], [], [], _, _, _, _, p, _, e => by cases e; exact ⟨rfl, p⟩
  | [], _ :: _, [], _, _, _, l, _, _, _ => by cases l
  | [], _, _ :: _, _, _, _, _, _, _, e => by cases e
  | i :: is, [], .v r :: hs, _, _, _, l, _, _, _ => by cases l
  | i :: is, v :: vs, .v r :: hs, ρ1, ρ2, σ1, l, p, ⟨o, n, ap, t⟩, e => by
    have e : (put i r ρ1).bind (pputs is hs) = some ρ2 := e
    cases e1 : put i r ρ1 with
    | none => rw [e1] at e; cases e
    | some ρ3 =>
      rw [e1] at e
      obtain ⟨l2, q⟩ := pputs_step (vs := vs) (by simpa using l) (put_step p e1 o n) (OwnAll.put e1 ap t) e
      exact ⟨by simp only [List.length_cons, l2], q⟩
  | i :: is, _, .s _ :: hs, _, _, _, _, _, _, e => by cases e
  | i :: is, _, [], _, _, _, _, _, _, e => by cases e
theorem HdsOk.len {K : PySem.W.Frag} {F' : Hp} {ρ' : Ev} {σ : L2.St} {H H' : Hp} : ∀ {vs : List V} {hs : List Hd}, HdsOk K F' ρ' σ H H' vs hs → vs.length = hs.length
  | [], [], _ => rfl
  | v :: vs, h :: hs, ⟨_, b, _⟩ => by simp only [List.length_cons, HdsOk.len b]
  | [], _ :: _, h => h.elim
  | _ :: _, [], h => h.elim
theorem par_in {is : List Nat} {ms : List (M Hd)} {D : Ends} (h : tS w (mPar is ms) D σ H) : tA w (mArgs ms) σ H fun vs H1 => ∃ F ρ F1 ρ2, St w.K F ρ σ H ∧ vs.length = is.length ∧ StpS w.K F ρ σ H F1 ρ2 (sets is vs σ) H1 ∧ ∀ σ' F' H', StpS w.K F ρ σ H F' ρ2 σ' H' → D.nx σ' H' := by
  obtain ⟨F, ρ, S, h⟩ := h
  refine ⟨F, ρ, S, ?_⟩
  unfold mPar at h
  cases e1 : mArgs ms ρ with
  | bad => rw [e1] at h; exact h
  | exc x ρ1 => rw [e1] at h; exact fun F' H' cls d p hx => h cls d σ F' H' p.toS hx
  | ok hs ρ1 =>
    rw [e1] at h
    have h : WpS w F ρ σ H (match pputs is hs ρ1 with | some ρ2 => .ok .next ρ2 | none => .bad) D := h
    intro F1 H1 p vs hv
    split at h
    · rename_i ρ2 e2
      obtain ⟨l, q⟩ := pputs_step hv.len p.toS (OwnAll.of S p hv) e2
      exact ⟨F, ρ, F1, ρ2, S, l, q, h⟩
    · exact h.elim
theorem ss_par2 {i j : Nat} {x y : Str} {a b : Expr} {px py pt pos : Pos} {kt k2 pt2} {ms : List (M Hd)} (hc : X.calm = true) (hN : X.N.Nodup) (hi : X.N[i]? = some x) (hj : X.N[j]? = some y) (hij : i ≠ j) (hx : X.env.scope.names.lookup x = some .local) (hy : X.env.scope.names.lookup y = some .local)
    (ha : PA X [a, b] (tA w (mArgs ms))) (hw : swappedStores [.Tuple [.Name x px, .Name y py] kt pt] (.Tuple [a, b] k2 pt2) X.env = pure (some [x, y])) (hs : swapsWithSole [.Tuple [.Name x px, .Name y py] kt pt] (.Tuple [a, b] k2 pt2) pos.line X.env = pure false) :
    PS X (.Assign [.Tuple [.Name x px, .Name y py] kt pt] (.Tuple [a, b] k2 pt2) pos) (tS w (mPar [i, j] ms)) := by
  refine PSimp (ps_par hc hN hi hj hij hx hy ha hw hs) fun D σ H h => TA_mono (par_in h) fun vs H1 ⟨F, ρ, F1, ρ2, S, l, q, k⟩ => ?_
  match vs, l with
  | [v, u], _ => exact ⟨v, u, rfl, k _ _ _ q⟩
theorem ss_par3 {i j l : Nat} {x y z : Str} {a b c : Expr} {px py pz pt pos : Pos} {kt k2 pt2} {ms : List (M Hd)} (hc : X.calm = true) (hN : X.N.Nodup) (hi : X.N[i]? = some x) (hj : X.N[j]? = some y) (hl : X.N[l]? = some z) (hij : i ≠ j) (hil : i ≠ l) (hjl : j ≠ l)
    (hx : X.env.scope.names.lookup x = some .local) (hy : X.env.scope.names.lookup y = some .local) (hz : X.env.scope.names.lookup z = some .local) (ha : PA X [a, b, c] (tA w (mArgs ms)))
    (hw : swappedStores [.Tuple [.Name x px, .Name y py, .Name z pz] kt pt] (.Tuple [a, b, c] k2 pt2) X.env = pure (some [x, y, z])) (hs : swapsWithSole [.Tuple [.Name x px, .Name y py, .Name z pz] kt pt] (.Tuple [a, b, c] k2 pt2) pos.line X.env = pure false) :
    PS X (.Assign [.Tuple [.Name x px, .Name y py, .Name z pz] kt pt] (.Tuple [a, b, c] k2 pt2) pos) (tS w (mPar [i, j, l] ms)) := by
  refine PSimp (ps_par3 hc hN hi hj hl hij hil hjl hx hy hz ha hw hs) fun D σ H h => TA_mono (par_in h) fun vs H1 ⟨F, ρ, F1, ρ2, S, n, q, k⟩ => ?_
  match vs, n with
  | [v, u, t], _ => exact ⟨v, u, t, rfl, k _ _ _ q⟩
def gNs (is : List Nat) : TGs := fun vs σ H Q => vs.length = is.length ∧ Q (sets is vs σ) H
theorem gns_nil : PGs X [] (gNs []) := PGsimp pgs_nil fun vs σ H Q ⟨l, q⟩ => by
  match vs, l with
  | [], _ => exact ⟨rfl, q⟩
theorem gns_cons {e : Expr} {es : List Expr} {i : Nat} {is : List Nat} (h1 : PG X e (gName i)) (h2 : PGs X es (gNs is)) (hs : (assignEach (e :: es) X.env).map (·.2) = assign e X.env :: (assignEach es X.env).map (·.2)) : PGs X (e :: es) (gNs (i :: is)) :=
  PGsimp (pgs_cons h1 h2 hs) fun vs σ H Q ⟨l, q⟩ => by
    match vs, l with
    | v :: vs, l => exact ⟨v, vs, rfl, by simpa using l, q⟩
theorem ss_parN {is : List Nat} {ts es : List Expr} {pt pos : Pos} {kt k2 pt2} {ms : List (M Hd)} (hz : is.length ≤ lim) (hc : X.calm = true) (ha : PA X es (tA w (mArgs ms))) (hg : PGs X ts (gNs is)) (hn : (assignEach ts X.env).length = is.length) (hst : (assignEach ts X.env).findIdx? (·.1) = none)
    (hs : swapsWithSole [.Tuple ts kt pt] (.Tuple es k2 pt2) pos.line X.env = pure false) (hw : swappedStores [.Tuple ts kt pt] (.Tuple es k2 pt2) X.env = pure none) (h1 : (assignEach [.Tuple ts kt pt] X.env).map (·.2) = [assign (.Tuple ts kt pt) X.env]) :
    PS X (.Assign [.Tuple ts kt pt] (.Tuple es k2 pt2) pos) (tS w (mPar is ms)) := by
  refine PSimp (ps_asg (pe_tup ha) (pg_tup hc hg hn hst) hs hw h1) fun D σ H h => TA_mono (par_in h) fun vs H1 ⟨F, ρ, F1, ρ2, S, l, q, k⟩ => ⟨lim_le (by rw [l]; exact hz), fun p hp => ⟨p, vs, rfl, .of upd_same, l, l, ?_⟩⟩
  have m : Mk w.K F1 H1 .non F1 (upd H1 p (.tup vs)) (.fz .none) := ⟨sub_upd hp, Sub.refl _, q.st.le.trans (sub_upd hp), fun _ _ h => .inl h, .non⟩
  exact k _ _ _ (q.trans (q.st.made m).toS)

/-! ### a, b = e -/
theorem put1_io {i j : Nat} {d : D} {xs : List D} {ρ ρ' : Ev} (h : put1 i d ρ = some ρ') (hj : ρ[j]? = some (some (.io xs))) : j ≠ i := fun z => by
  subst z
  obtain ⟨x, h1, h2, _⟩ := put1_some h
  rw [hj] at h1
  exact h2 xs (Option.some.inj h1).symm
theorem puts_io {j : Nat} {xs : List D} : ∀ {is : List Nat} {ds : List D} {ρ ρ' : Ev}, puts is ds ρ = some ρ' → ρ[j]? = some (some (.io xs)) → j ∉ is
  | [], [], _, _, _, _ => by simp
  | [], _ :: _, _, _, h, _ => by cases h
  | _ :: _, [], _, _, h, _ => by cases h
  | i :: is, d :: ds, ρ, ρ', h, hj => by
    have h : (put1 i d ρ).bind (puts is ds) = some ρ' := h
    cases e1 : put1 i d ρ with
    | none => rw [e1] at h; cases h
    | some ρ1 =>
      rw [e1] at h
      have n1 := put1_io e1 hj
      have n2 := puts_io h ((put1_ne e1 n1).trans hj)
      intro m
      rcases List.mem_cons.mp m with z | z
      · exact n1 z
      · exact n2 z
theorem asg_io {j : Nat} {xs : List D} {t : Tg} {d : D} {ρ ρ' : Ev} (h : asg t d ρ = some ρ') (hj : ρ[j]? = some (some (.io xs))) : j ∉ t.slots := by
  cases t with
  | n i =>
    intro m
    exact put1_io h hj (List.mem_singleton.mp m)
  | t l =>
    cases d with
    | tuple ds => exact puts_io h hj
    | list ds => exact puts_io h hj
    | none => cases h
    | bool _ => cases h
    | int _ => cases h
    | str _ => cases h
    | dict _ => cases h
theorem asg_step {K : PySem.W.Frag} {F F1 H H1 : Hp} {ρ ρ1 ρ2 : Ev} {σ σ1 σ2 : L2.St} {t : Tg} {d : D} (p : StpS K F ρ σ H F1 ρ1 σ1 H1) (h : asg t d ρ1 = some ρ2) (S2 : St K F1 ρ2 σ2 H1) (c : Chg t.slots σ1 σ2) (m : ∀ b, Mu ρ2 σ2 b → Mu ρ1 σ1 b) : StpS K F ρ σ H F1 ρ2 σ2 H1 := by
  refine ⟨S2, p.le, p.keep, p.dom, p.new, fun b z => p.mu b (m b z), fun i xs hi => ?_⟩
  obtain ⟨⟨ys, g1⟩, g2⟩ := p.io i xs hi
  have n := asg_io h g1
  exact ⟨⟨ys, by rw [asg_ne h n]; exact g1⟩, (c.2 i n).trans g2⟩
def asgOf (t : Tg) (h : Hd) : M Fl := fun ρ => match kept h with
  | some d => (match asg t d ρ with
    | some ρ' => .ok .next ρ'
    | none => .bad)
  | none => .bad
def mAsg (t : Tg) (m : M Hd) : M Fl := fun ρ => (mEsc m ρ).bind (asgOf t)
theorem ss_asg {t : Tg} {tg e : Expr} {m : M Hd} {pos : Pos} (he : PE X e (tK w m)) (hg : PG X tg (tG w t)) (hs : swapsWithSole [tg] e pos.line X.env = pure false) (hw : swappedStores [tg] e X.env = pure none) (h1 : (assignEach [tg] X.env).map (·.2) = [assign tg X.env]) : PS X (.Assign [tg] e pos) (tS w (mAsg t m)) := by
  refine PSimp (ps_asg (se_esc he) hg hs hw h1) fun D σ H ⟨F, ρ, S, h⟩ => ⟨F, ρ, S, (WpS.bind h).mono fun k ρ1 F1 H1 ⟨p, q⟩ v hv => ?_⟩
  unfold asgOf at q
  split at q
  · rename_i d ek
    split at q
    · rename_i ρ2 ea
      rw [kept_some ek] at hv
      exact ⟨F1, ρ1, d, ρ2, p.st, hv, ea, fun σ' S' c m => q _ _ _ (asg_step (.refl p.st) ea S' c m)⟩
    · exact q.elim
  · exact q.elim

/-! ### a list of one's own is changed -/
def lstAt (k : Nat) (ρ : Ev) : Option (List D) := match ρ[k]? with
  | some (some (.own xs)) => some xs
  | some (some (.io xs)) => some xs
  | _ => none
def setAt (k : Nat) (ys : List D) (ρ : Ev) : Ev := match ρ[k]? with
  | some (some (.io _)) => ρ.set k (some (.io ys))
  | _ => ρ.set k (some (.own ys))
theorem lstAt_some {k : Nat} {xs ys : List D} {ρ : Ev} (h : lstAt k ρ = some xs) : ∃ s s', ρ[k]? = some (some s) ∧ s.mu = true ∧ s'.mu = true ∧ (∀ {K : PySem.W.Frag} {F H : Hp} {v : V}, SlOk K F H v s → ∃ a vs, v = .ref a ∧ H a = some (.lst vs) ∧ F a = none ∧ RpAll K F vs xs) ∧
    (∀ {K : PySem.W.Frag} {F H : Hp} {a : Addr} {vs : List V}, H a = some (.lst vs) → F a = none → RpAll K F vs ys → SlOk K F H (.ref a) s') ∧ SlLe (some s) (some s') ∧ setAt k ys ρ = ρ.set k (some s') := by
  unfold lstAt at h
  unfold setAt
  split at h
  · rename_i zs e
    cases h
    exact ⟨_, .own ys, e, rfl, rfl, fun z => z, fun h1 h2 h3 => ⟨_, _, rfl, h1, h2, h3⟩, .inl ⟨_, rfl⟩, by rw [e]⟩
  · rename_i zs e
    cases h
    exact ⟨_, .io ys, e, rfl, rfl, fun z => z, fun h1 h2 h3 => ⟨_, _, rfl, h1, h2, h3⟩, ⟨_, rfl⟩, by rw [e]⟩
  · cases h
theorem St.change {K : PySem.W.Frag} {F H : Hp} {ρ : Ev} {σ : L2.St} {k : Nat} {xs : List D} (S : St K F ρ σ H) (h : lstAt k ρ = some xs) : ∃ a vs, σ[k]? = some (some (.ref a)) ∧ H a = some (.lst vs) ∧ RpAll K F vs xs ∧
    ∀ us ys, RpAll K F us ys → StpE K F ρ σ H F (setAt k ys ρ) (upd H a (.lst us)) := by
  obtain ⟨s, s', hs, ms, ms', ok1, _⟩ := lstAt_some (ys := []) h
  obtain ⟨v, ev, ok⟩ := S.slot k s hs
  obtain ⟨a, vs, rfl, h1, h2, h3⟩ := ok1 ok
  refine ⟨a, vs, ev, h1, h3, fun us ys r => ?_⟩
  obtain ⟨t, t', ht, mt, mt', ok2, ok3, le, e⟩ := lstAt_some (ys := ys) h
  rw [hs] at ht; cases ht
  have mua : Mu ρ σ a := ⟨k, s, hs, ms, ev⟩
  have hk : k < ρ.length := (List.getElem?_eq_some_iff.mp hs).1
  rw [e]
  have nF : ∀ {b : Addr} {o : HO}, F b = some o → b ≠ a := fun {b o} q z => by rw [z, h2] at q; cases q
  refine ⟨⟨by rw [List.length_set]; exact S.len, fun b o q => by rw [upd_ne (nF q)]; exact S.le b o q, fun j u hu => ?_, fun i j u v b hi hj mu mv ei ej => ?_, tabs_updl S.tb h1, S.nt⟩, Sub.refl _, fun b o q _ n => ?_, fun b q => ?_, fun b o q => .inl q, fun i => ?_⟩
  · rcases set_get hu with ⟨z, eu⟩ | ⟨z, hu⟩
    · subst z; cases eu
      exact ⟨.ref a, ev, ok3 upd_same h2 r⟩
    · obtain ⟨x, ex, okx⟩ := S.slot j u hu
      refine ⟨x, ex, ?_⟩
      have ne : ∀ {b : Addr}, u.mu = true → x = .ref b → b ≠ a := fun {b} mu eb z' => z (S.inj j k u s a hu hs mu ms (by rw [ex, eb, z']) ev)
      cases u with
      | frz d => exact okx
      | obj d => exact okx
      | own zs =>
        obtain ⟨b, us', q1, q2, q3, q4⟩ := okx
        exact ⟨b, us', q1, by rw [upd_ne (ne rfl q1)]; exact q2, q3, q4⟩
      | io zs =>
        obtain ⟨b, us', q1, q2, q3, q4⟩ := okx
        exact ⟨b, us', q1, by rw [upd_ne (ne rfl q1)]; exact q2, q3, q4⟩
  · rcases set_get hi with ⟨z, eu⟩ | ⟨z, hi'⟩
    · rcases set_get hj with ⟨z2, eu2⟩ | ⟨z2, hj'⟩
      · rw [z, z2]
      · subst z
        exact S.inj i j s v b hs hj' ms mv ei ej
    · rcases set_get hj with ⟨z2, eu2⟩ | ⟨z2, hj'⟩
      · subst z2
        exact S.inj i j u s b hi' hs mu ms ei ej
      · exact S.inj i j u v b hi' hj' mu mv ei ej
  · rw [upd_ne fun z => n (by rw [z]; exact mua)]
    exact q
  · by_cases hb : b = a
    · subst hb; exact (q.lst upd_same).elim
    · intro o e; exact q o (by rw [upd_ne hb]; exact e)
  · by_cases hi : i = k
    · subst hi
      rw [join_some.mpr hs, List.getElem?_set_self hk]
      exact le
    · rw [List.getElem?_set_ne fun z => hi z.symm]
      exact SlLe.refl _
/-- xs[i] = e -/
def mStore (k : Nat) (mi me : M Hd) : M Fl := fun ρ => (mEsc me ρ).bind fun hv ρ1 => match lstAt k ρ1 with
  | none => .bad
  | some _ => (mi ρ1).bind fun hi ρ2 => match kept hv, rd hi ρ2, lstAt k ρ2 with
    | some d, some (.int i), some xs => (match ixN xs.length i with
      | some j => .ok .next (setAt k (xs.set j d) ρ2)
      | none => .bad)
    | _, _, _ => .bad
theorem se_slot {k : Nat} {x : Str} {pos : Pos} (hN : X.N[k]? = some x) (hv : Vis X.env.scope x) (hd : (x == ("__debug__" : Str)) = false) (hcd : (x == ("__classdict__" : Str)) = false) : PE X (.Name x pos) (tVar k) := pe_var hN hv hd hcd
theorem ss_store {k : Nat} {x : Str} {i e : Expr} {mi me : M Hd} {px ps pos : Pos} (hN : X.N[k]? = some x) (hv : Vis X.env.scope x) (hd : (x == ("__debug__" : Str)) = false) (hcd : (x == ("__classdict__" : Str)) = false) (hi : PE X i (tK w mi)) (he : PE X e (tK w me))
    (ha : ∀ v, assign (.Subscript (.Name x px) i ps) X.env v = (do
      let ov ← holding [v] (eval (.Name x px) X.env)
      let iv ← holding [v, ov] (eval i X.env)
      standAt ps
      holding [v, ov, iv] (setItem ov iv v)
      release [v, ov, iv] []))
    (hs : swapsWithSole [.Subscript (.Name x px) i ps] e pos.line X.env = pure false) (hw : swappedStores [.Subscript (.Name x px) i ps] e X.env = pure none) (h1 : (assignEach [.Subscript (.Name x px) i ps] X.env).map (·.2) = [assign (.Subscript (.Name x px) i ps) X.env]) :
    PS X (.Assign [.Subscript (.Name x px) i ps] e pos) (tS w (mStore k mi me)) := by
  refine PSimp (ps_asg (se_esc he) (pg_sub (se_slot hN hv hd hcd) hi set_list ha) hs hw h1) fun D σ H ⟨F, ρ, S, h⟩ => ⟨F, ρ, S, (WpS.bind h).mono fun kv ρ1 F1 H1 ⟨p, q⟩ v hv => ?_⟩
  split at q
  · exact q.elim
  · rename_i xs0 e0
    obtain ⟨a, vs0, ea, _⟩ := p.st.change e0
    refine ⟨.ref a, ea, F1, ρ1, p.st, (WpS.bind q).mono fun ki ρ2 F2 H2 ⟨p2, q2⟩ iv hiv => ?_⟩
    split at q2
    · rename_i d j xs ek ei el
      split at q2
      · rename_i jn ej
        obtain ⟨a', vs, ea', hH, hr, chg⟩ := p2.st.change el
        rw [ea] at ea'; cases ea'
        rw [kept_some ek] at hv
        have hv2 : Rp w.K F2 v d := Rp.mono p2.le _ _ hv
        refine ⟨a, vs, j, jn, rfl, (hiv.pk p2.st ei).int, hH, by rw [hr.length]; exact ej, ?_⟩
        exact q2 _ _ _ (chg _ _ (hr.set hv2 jn)).toS
      · exact q2.elim
    · exact q2.elim
/-- xs.append(e) -/
def mApp (k : Nat) (me : M Hd) : M Fl := fun ρ => match lstAt k ρ with
  | none => .bad
  | some _ => (mEsc me ρ).bind fun hv ρ1 => match kept hv, lstAt k ρ1 with
    | some d, some xs => if xs.length < lim then .ok .next (setAt k (xs ++ [d]) ρ1) else .bad
    | _, _ => .bad
theorem ss_app {k : Nat} {x : Str} {e : Expr} {me : M Hd} {px apos cpos pos : Pos} (hN : X.N[k]? = some x) (hv : Vis X.env.scope x) (hd : (x == ("__debug__" : Str)) = false) (hcd : (x == ("__classdict__" : Str)) = false) (he : PE X e (tK w me)) (hst : starEach [e] X.env = (false, eval e X.env) :: starEach [] X.env)
    (hbase : attributeBase (.Name x px) "append" X.env (eval (.Name x px) X.env) = eval (.Name x px) X.env) (hfew : ((backTo cpos (starEach [e] X.env)).all (fun x => !x.1) && (backToKw cpos (keywordEach [] X.env)).all (fun x => x.1.isSome) && decide ([e].length + ([] : List Keyword).length + (if ([] : List Keyword).isEmpty then 0 else 1) < 30)) = true)
    (hline : (apos.endLine == cpos.line) = true) (hpl : (backTo cpos (starEach [] X.env)).any (·.1) = false) (hsw : swapsWith (.Call (.Attribute (.Name x px) "append" apos) [e] [] cpos) none pos.line X.env = pure false) :
    PS X (.Expr (.Call (.Attribute (.Name x px) "append" apos) [e] [] cpos) pos) (tS w (mApp k me)) := by
  have hE : PE X (.Call (.Attribute (.Name x px) "append" apos) [e] [] cpos) (tBM X.K "list" rAppend (tVar k) (tCons (tK w (mEsc me)) tNil)) :=
    pe_bm PySem.F.plainAttrs_list PySem.F.slot_list_append PySem.F.type_list_append mt_append (se_slot hN hv hd hcd) (pa_cons (se_esc he) pa_nil hst) hbase hfew hline hst hpl
  refine PSimp (ps_expr hE hsw) fun D σ H ⟨F, ρ, S, h⟩ => ?_
  unfold mApp at h
  split at h
  · exact h.elim
  · rename_i xs0 e0
    obtain ⟨a, vs0, ea, hH0, _⟩ := S.change e0
    refine ⟨.ref a, ea, .inl ⟨rfl, _, .of hH0⟩, F, ρ, S, (WpS.bind h).mono fun kv ρ1 F1 H1 ⟨p, q⟩ v hv => ?_⟩
    split at q
    · rename_i d xs ek el
      split at q
      · rename_i hz
        obtain ⟨a', vs, ea', hH, hr, chg⟩ := p.st.change el
        rw [ea] at ea'; cases ea'
        rw [kept_some ek] at hv
        have hv : Rp w.K F1 v d := hv
        exact ⟨a, vs, v, rfl, rfl, hH, by rw [hr.length, sizeLine_eq]; exact hz, q _ _ _ (chg _ _ (hr.append (.cons hv .nil))).toS⟩
      · exact q.elim
    · exact q.elim
/-- an expression whose value is dropped -/
def mDrop (m : M Hd) : M Fl := fun ρ => (m ρ).bind fun _ ρ1 => .ok .next ρ1
theorem ss_drop {e : Expr} {m : M Hd} {pos : Pos} (he : PE X e (tK w m)) (hs : swapsWith e none pos.line X.env = pure false) : PS X (.Expr e pos) (tS w (mDrop m)) :=
  PSimp (ps_expr he hs) fun D σ H ⟨F, ρ, S, h⟩ => ⟨F, ρ, S, (WpS.bind h).mono fun k ρ1 F1 H1 ⟨p, q⟩ v hv => q _ _ _ (.refl p.st)⟩
end
end Pu
set_option Elab.async false
set_option linter.all false
set_option maxRecDepth 100000
set_option maxHeartbeats 1000000
/-! Pu10: the pure layer: loops. -/
namespace Pu
open PySem L2 PyProof.Rows
def loopEnd (again : M Fl) (f : Fl) : M Fl := match f with
  | .next => again
  | .cont => again
  | .brk => fun ρ => .ok .next ρ
  | .ret r => fun ρ => .ok (.ret r) ρ
def forRun (tg : Tg) (body : M Fl) : List D → M Fl
  | [] => fun ρ => .ok .next ρ
  | d :: ds => fun ρ => match asg tg d ρ with
    | none => .bad
    | some ρ1 => (body ρ1).bind (loopEnd (forRun tg body ds))
def mFor (mi : M (List D)) (tg : Tg) (body : M Fl) : M Fl := fun ρ => (mi ρ).bind fun ds ρ1 => forRun tg body ds ρ1
def whRun (c : M Hd) (body : M Fl) : Nat → M Fl
  | 0 => fun _ => .bad
  | n + 1 => fun ρ => (c ρ).bind fun h ρ1 => match asB h ρ1 with
    | some true => (body ρ1).bind (loopEnd (whRun c body n))
    | some false => .ok .next ρ1
    | none => .bad
def mWhile (n : Nat) (c : M Hd) (body : M Fl) : M Fl := whRun c body n
section
variable {w : Wi} {X : Cx} {F F1 H H1 : Hp} {ρ ρ1 : Ev} {σ σ1 : L2.St}
theorem WpS.loop {r : Res Fl} {again : M Fl} {D : Ends} {N : L2.St → Hp → Prop} (p : StpS w.K F ρ σ H F1 ρ1 σ1 H1) (h : WpS w F ρ σ H (r.bind (loopEnd again)) D)
    (hN : ∀ σ' F' H' ρ', StpS w.K F ρ σ H F' ρ' σ' H' → WpS w F ρ σ H (again ρ') D → N σ' H') : WpS w F1 ρ1 σ1 H1 r { D with nx := N, ct := N, bk := D.nx } := by
  match r, h with
  | .ok .next ρ', h => exact fun σ' F' H' q => hN σ' F' H' ρ' (p.trans q) h
  | .ok .cont ρ', h => exact fun σ' F' H' q => hN σ' F' H' ρ' (p.trans q) h
  | .ok .brk ρ', h => exact fun σ' F' H' q => h σ' F' H' (p.trans q)
  | .ok (.ret r) ρ', h => exact fun v σ' F' H' q rv => h v σ' F' H' (p.trans q) (rv.back p)
  | .exc x ρ', h => exact fun cls d σ' F' H' q hx => h cls d σ' F' H' (p.trans q) hx
  | .bad, h => exact h.elim
theorem ss_for {mi : M (List D)} {tg : Tg} {tge iter : Expr} {body : List Stmt} {mb : M Fl} {pos : Pos} (hp : PassesOwn (model X.prog X.w) X.A X.env X.xe) (hc : X.calm = true) (hi : PI X tge iter (tI w mi)) (hg : PG X tge (tG w tg)) (hb : PSs X body (tS w mb))
    (hs : ∀ x, foldedSetIterable iter X.env x = pure x) : PS X (.For tge iter body [] pos) (tS w (mFor mi tg mb)) := by
  refine PSimp (ps_for hp hc hi hg hb hs) fun D σ H ⟨F, ρ, S, h⟩ => ⟨F, ρ, S, ?_⟩
  unfold mFor at h
  refine (WpS.bind h).mono fun ds ρ1 F1 H1 ⟨p, q⟩ J hJ => ?_
  let W : Nat → Nat → L2.St → Hp → Prop := fun i m σ' H' => m = ds.length - i ∧ i ≤ ds.length ∧ ∃ F' ρ', StpS w.K F1 ρ1 σ H1 F' ρ' σ' H' ∧ WpS w F1 ρ1 σ H1 (forRun tg mb (ds.drop i) ρ') D
  refine ⟨W, ⟨_, rfl, Nat.zero_le _, F1, ρ1, .refl p.st, q⟩, ?_⟩
  rintro i m σi H' ⟨rfl, hi, Fi, ρi, pi, hq⟩
  by_cases hlt : i < ds.length
  · refine .inr ⟨hJ.go i H' (pi.le.trans pi.st.le) hlt, W (i + 1) (ds.length - (i + 1)), fun σ'' H'' h => ⟨_, by omega, h⟩, fun x H2 hy => ?_⟩
    obtain ⟨d, hd⟩ := at_some hlt
    obtain ⟨F2, mk⟩ := hJ.yld i d x H' H2 Fi pi.le pi.st.le hd hy
    have p2 := pi.trans (pi.st.made mk).toS
    have hdrop : ds.drop i = d :: ds.drop (i + 1) := by
      rw [List.drop_eq_getElem_cons hlt]
      rw [List.getElem?_eq_getElem hlt] at hd
      cases hd; rfl
    rw [hdrop] at hq
    unfold forRun at hq
    cases ea : asg tg d ρi with
    | none => rw [ea] at hq; exact hq.elim
    | some ρa =>
      rw [ea] at hq
      refine ⟨F2, ρi, d, ρa, p2.st, mk.rv, ea, fun σ2 S2 c2 mu2 => ⟨F2, ρa, S2, ?_⟩⟩
      have p3 := asg_step p2 ea S2 c2 mu2
      exact WpS.loop p3 hq fun σ' F' H' ρ' q' hq' => ⟨rfl, hlt, F', ρ', q', hq'⟩
  · have hi' : i = ds.length := by omega
    subst hi'
    refine .inl ⟨hJ.stop H' (pi.le.trans pi.st.le), ?_⟩
    rw [List.drop_length] at hq
    exact hq _ _ _ pi
theorem ss_while {n : Nat} {c : Expr} {mc : M Hd} {body : List Stmt} {mb : M Fl} {pos : Pos} (hp : PassesOwn (model X.prog X.w) X.A X.env X.xe) (hc : PT X c (tT w mc)) (hb : PSs X body (tS w mb)) : PS X (.While c body [] pos) (tS w (mWhile n mc mb)) := by
  refine PSimp (ps_while hp hc hb) fun D σ H ⟨F, ρ, S, h⟩ => ?_
  let W : Nat → L2.St → Hp → Prop := fun m σ' H' => ∃ F' ρ', St w.K F' ρ' σ' H' ∧ WpS w F' ρ' σ' H' (whRun mc mb m ρ') D
  refine ⟨W, ⟨n, F, ρ, S, h⟩, ?_⟩
  rintro m σi Hi ⟨Fi, ρi, Si, hq⟩
  cases m with
  | zero => exact hq.elim
  | succ m =>
    unfold whRun at hq
    refine ⟨Fi, ρi, Si, (WpS.bind hq).mono fun k ρ1 F1 H1 ⟨p1, q1⟩ => ?_⟩
    split at q1
    · rename_i eb
      exact ⟨true, asB_some eb, W m, fun σ' H' h => ⟨m, Nat.lt_succ_self m, h⟩, F1, ρ1, p1.st, WpS.loop (.refl p1.st) q1 fun σ' F' H' ρ' q' hq' => ⟨F', ρ', q'.st, WpS.later q' hq'⟩⟩
    · rename_i eb
      exact ⟨false, asB_some eb, q1 _ _ _ (.refl p1.st)⟩
    · exact q1.elim
end
end Pu
set_option Elab.async false
set_option linter.all false
set_option maxRecDepth 100000
set_option maxHeartbeats 1000000
/-! Pu11: the pure layer: defs and their calls. -/
namespace Pu
open PySem L2 PyProof.Rows
abbrev PF := List Sl → Res RV
def pfOf (n : Nat) (body : M Fl) : PF := fun sls => match body (sls.map some ++ List.replicate (n - sls.length) none) with
  | .ok .next ρ' => .ok (.fz .none) ρ'
  | .ok (.ret r) ρ' => .ok r ρ'
  | .exc x ρ' => .exc x ρ'
  | _ => .bad
structure CallS (K : PySem.W.Frag) (F : Hp) (ρ : Ev) (σ : L2.St) (H : Hp) (F' : Hp) (ρ' : Ev) (H' : Hp) : Prop where
  le : Sub F F'
  hle : Sub F' H'
  keep : ∀ b o, H b = some o → NT o → ¬ Mu ρ σ b → H' b = some o
  tb : LamX.Tabs (tabsK K) H'
  dom : ∀ b, NO H' b → NO H b
  new : ∀ b o, F' b = some o → F b = some o ∨ NO H b
  nt : ∀ b o, F' b = some o → NT o
  io : ∀ (i : Nat) xs, ρ[i]? = some (some (.io xs)) → ∃ ys a us, ρ'[i]? = some (some (.io ys)) ∧ σ[i]? = some (some (.ref a)) ∧ H' a = some (.lst us) ∧ F' a = none ∧ RpAll K F' us ys
def NoOwn (sls : List Sl) : Prop := ∀ s ∈ sls, ∀ xs, s ≠ .own xs
/-- what a def promises -/
def spP (K : PySem.W.Frag) (XR : Exn → Value → Option Addr → Hp → Prop) (n : Nat) (pf : PF) : Sp := fun vs H Q E => ∃ F sls, St K F (sls.map some) (vs.map some) H ∧ sls.length = n ∧ NoOwn sls ∧ match pf sls with
  | .bad => False
  | .ok r ρ' => ∀ v F' H', CallS K F (sls.map some) (vs.map some) H F' ρ' H' → RVok K F' H H' v r → Q v H'
  | .exc x ρ' => ∀ cls d F' H', CallS K F (sls.map some) (vs.map some) H F' ρ' H' → XR x cls d H' → E cls d H'
section
variable {K : PySem.W.Frag} {F F1 F' H H1 H' : Hp} {ρ ρ1 ρ' : Ev} {σ σ1 σ' : L2.St} {sls : List Sl} {vs : List V} {N : List Str}
theorem start_get {i : Nat} {v : V} (h : (vs.map some : List (Option V))[i]? = some (some v)) : (L2.start N vs)[i]? = some (some v) := by
  unfold L2.start
  rw [List.getElem?_append_left (List.getElem?_eq_some_iff.mp h).1]
  exact h
theorem pad_get {α : Type} {l : List α} {k i : Nat} {s : α} (h : (l.map some ++ List.replicate k none)[i]? = some (some s)) : (l.map some)[i]? = some (some s) := by
  by_cases hi : i < l.length
  · rw [List.getElem?_append_left (by simpa using hi)] at h
    exact h
  · rw [List.getElem?_append_right (by simpa using hi), List.getElem?_replicate] at h
    split at h <;> cases h
theorem pad_get' {α : Type} {l : List α} {k i : Nat} {s : α} (h : (l.map some)[i]? = some (some s)) : (l.map some ++ List.replicate k none)[i]? = some (some s) := by
  rw [List.getElem?_append_left (List.getElem?_eq_some_iff.mp h).1]
  exact h
theorem St.startP (S : St K F (sls.map some) (vs.map some) H) : St K F (sls.map some ++ List.replicate (N.length - sls.length) none) (L2.start N vs) H := by
  have hl : sls.length = vs.length := by have := S.len; simpa using this
  refine ⟨?_, S.le, fun i s h => ?_, fun i j s t a hi hj ms mt ei ej => ?_, S.tb, S.nt⟩
  · unfold L2.start
    simp only [List.length_append, List.length_map, List.length_replicate, hl]
  · obtain ⟨v, e, ok⟩ := S.slot i s (pad_get h)
    exact ⟨v, start_get e, ok⟩
  · exact S.inj i j s t a (pad_get hi) (pad_get hj) ms mt (pad_get (by unfold L2.start at ei; exact ei)) (pad_get (by unfold L2.start at ej; exact ej))
theorem Mu.startP {b : Addr} (m : Mu (sls.map some ++ List.replicate (N.length - sls.length) none) (L2.start N vs) b) : Mu (sls.map some) (vs.map some) b := by
  obtain ⟨i, s, h1, h2, h3⟩ := m
  exact ⟨i, s, pad_get h1, h2, pad_get (by unfold L2.start at h3; exact h3)⟩
theorem no_own (n : NoOwn sls) {i : Nat} {ys : List D} (h : (sls.map some ++ List.replicate (N.length - sls.length) none)[i]? = some (some (.own ys))) : False := by
  have h := pad_get h
  rw [List.getElem?_map] at h
  obtain ⟨s, e, z⟩ := Option.map_eq_some_iff.mp h
  cases z
  exact n _ (List.mem_of_getElem? e) ys rfl
theorem StpS.toCall (n : NoOwn sls) (p : StpS K F (sls.map some ++ List.replicate (N.length - sls.length) none) (L2.start N vs) H F' ρ' σ' H') : CallS K F (sls.map some) (vs.map some) H F' ρ' H' := by
  have io : ∀ (i : Nat) xs, (sls.map some)[i]? = some (some (Sl.io xs)) → ∃ ys a us, ρ'[i]? = some (some (.io ys)) ∧ σ'[i]? = some (some (.ref a)) ∧ (L2.start N vs)[i]? = some (some (.ref a)) ∧ H' a = some (.lst us) ∧ F' a = none ∧ RpAll K F' us ys := fun i xs h => by
    obtain ⟨⟨ys, e1⟩, e2⟩ := p.io i xs (pad_get' h)
    obtain ⟨v, ev, ok⟩ := p.st.slot i _ e1
    obtain ⟨a, us, rfl, h1, h2, h3⟩ := ok
    exact ⟨ys, a, us, e1, ev, by rw [← e2]; exact ev, h1, h2, h3⟩
  refine ⟨p.le, p.st.le, fun b o h t m => p.keep b o h t fun z => m z.startP, p.st.tb, p.dom, fun b o h => ?_, p.st.nt, fun i xs h => ?_⟩
  · rcases p.new b o h with z | z | z
    · exact .inl z
    · exact .inr z
    · obtain ⟨i, s, h1, h2, h3⟩ := z
      cases s with
      | frz d => cases h2
      | obj d => cases h2
      | own ys => exact (no_own n h1).elim
      | io ys =>
        obtain ⟨ys, a, us, e1, e2, e3, e4, e5, e6⟩ := io i ys (pad_get h1)
        rw [h3] at e3; cases e3
        rw [h] at e5; cases e5
  · obtain ⟨ys, a, us, e1, e2, e3, e4, e5, e6⟩ := io i xs h
    exact ⟨ys, a, us, e1, pad_get (by unfold L2.start at e3; exact e3), e4, e5, e6⟩
theorem RtOk.call {v : V} {r : RV} (n : NoOwn sls) (h : RtOk K F' (sls.map some ++ List.replicate (N.length - sls.length) none) σ H H' v r) : RVok K F' H H' v r := by
  cases r with
  | fz d => exact h
  | fr xs =>
    obtain ⟨a, us, e, h0, h1, h2, h3⟩ := h
    rcases h0 with h0 | ⟨i, ys, g, _⟩
    · exact ⟨a, us, e, h0, h1, h2, h3⟩
    · exact (no_own n g).elim
end
/-- a def's body, read as a pure word, keeps the promise -/
theorem fn_pure {P : Program} {w : World} {K : PySem.W.Frag} {mg : Str → Option Value} {base : Heap} {XR : Exn → Value → Option Addr → Hp → Prop} {x qual : Str} {st : Stmt} {f : Addr} {fd : FuncData} {N ps : List Str} {k : Nat} {body : M Fl} (Fn : Fun K x qual st f fd) (S : FnScope N ps (defScope st))
    (hb : ∀ (cdv : Value) (A : Around) (outer : List Env) (s : Shared) (H : Hp) (E : XK), Room k (A.deeper (envOfC qual (defScope st) s.heap.objs.size f cdv)) → PySem.W.codeIn K cdv qual = true → fd.code = cdv →
      PSs (cxOf (L2N.CX P w) P w K mg base N qual (defScope st) f cdv A outer s H E) (defBody st) (tS ⟨K, XR, fun cls d _ H => E cls d H⟩ body)) :
    FnOk P w K mg base (L2N.CX P w) (k + 1) f fd ps (spP K XR ps.length (pfOf N.length body)) := by
  obtain ⟨oc, od, kV, doc, pm, an, cdv, ct, osl, rfl, lk, hcd⟩ := Fn.ex
  refine fn_of lk hcd S (fun vs H Q E ⟨F, sls, S, l, _⟩ => ?_) fun A outer s H vs Q E hr ⟨F, sls, S, l, n, h⟩ => ⟨_, hb cdv A outer s H E hr hcd rfl, F, _, S.startP (N := N), ?_⟩
  · have := S.len
    simp only [List.length_map] at this
    omega
  · unfold pfOf at h
    cases e : body (sls.map some ++ List.replicate (N.length - sls.length) none) with
    | bad => rw [e] at h; exact h
    | exc x ρ' =>
      rw [e] at h
      exact fun cls d σ' F' H' p hx => h cls d F' H' (p.toCall n) hx
    | ok fl ρ' =>
      rw [e] at h
      cases fl with
      | next => exact fun σ' F' H' p => h .non F' H' (p.toCall n) Rp.non
      | ret r => exact fun v σ' F' H' p rt => h v F' H' (p.toCall n) (rt.call n)
      | brk => exact h.elim
      | cont => exact h.elim

/-! ### a call -/
/-- the argument at place io may be a list that the callee changes; the others are shared -/
def slOf (h : Hd) (ρ : Ev) : Option Sl := match h with
  | .v (.fz d) => some (.frz d)
  | .v (.fr _) => none
  | .s i => match ρ[i]?.join with
    | some (.frz d) => some (.frz d)
    | some (.own xs) => some (.io xs)
    | some (.io xs) => some (.io xs)
    | some (.obj u) => some (.obj u)
    | none => none
def slsOf : List Hd → Ev → Option (List Sl)
  | [], _ => some []
  | h :: hs, ρ => match slOf h ρ, slsOf hs ρ with
    | some s, some ss => some (s :: ss)
    | _, _ => none
def ioAt : List Sl → Option Nat
  | [] => none
  | .io _ :: _ => some 0
  | .frz _ :: ss => (ioAt ss).map (· + 1)
  | .own _ :: ss => (ioAt ss).map (· + 1)
  | .obj _ :: ss => (ioAt ss).map (· + 1)
def ioOnce : List Sl → Bool
  | [] => true
  | .io _ :: ss => (ioAt ss).isNone
  | .frz _ :: ss => ioOnce ss
  | .own _ :: ss => false
  | .obj _ :: ss => ioOnce ss
/-- what the caller's slots are behind the call -/
def backIo (hs : List Hd) (sls : List Sl) (ρ' ρ : Ev) : Option Ev := match ioAt sls with
  | none => some ρ
  | some j => match hs[j]?, ρ'[j]? with
    | some (.s i), some (some (.io ys)) => some (setAt i ys ρ)
    | _, _ => none
def callBack (hs : List Hd) (sls : List Sl) (ρ : Ev) (r : Res RV) : Res Hd := match r with
  | .ok r ρ' => (match backIo hs sls ρ' ρ with
    | some ρ2 => .ok (.v r) ρ2
    | none => .bad)
  | .exc x ρ' => (match backIo hs sls ρ' ρ with
    | some ρ2 => .exc x ρ2
    | none => .bad)
  | .bad => .bad
def callEnd (n : Nat) (pf : PF) (hs : List Hd) : M Hd := fun ρ => match slsOf hs ρ with
  | none => .bad
  | some sls => if sls.length = n ∧ ioOnce sls = true then callBack hs sls ρ (pf sls) else .bad
def mCall (n : Nat) (pf : PF) (ms : List (M Hd)) : M Hd := fun ρ => (mArgs ms ρ).bind (callEnd n pf)
section
variable {K : PySem.W.Frag} {F F1 F' H H1 H' : Hp} {ρ ρ1 ρ' : Ev} {σ σ1 σ' : L2.St} {sls : List Sl} {vs : List V} {hs : List Hd}
/-- an argument's place -/
theorem sls_get : ∀ {hs : List Hd} {sls : List Sl}, slsOf hs ρ = some sls → sls.length = hs.length ∧ ∀ (j : Nat) s, sls[j]? = some s → ∃ h, hs[j]? = some h ∧ slOf h ρ = some s
  | [], _, e => by cases e; exact ⟨rfl, fun j s h => by simp at h⟩
  | h :: hs, sls, e => by
    unfold slsOf at e
    split at e
    · rename_i s ss e1 e2
      cases e
      obtain ⟨l, g⟩ := sls_get e2
      refine ⟨by simp [l], fun j t ht => ?_⟩
      cases j with
      | zero =>
        rw [List.getElem?_cons_zero] at ht ⊢
        cases ht
        exact ⟨h, rfl, e1⟩
      | succ j =>
        rw [List.getElem?_cons_succ] at ht ⊢
        exact g j t ht
    · cases e
theorem HdsOk.get {σ : L2.St} : ∀ {vs : List V} {hs : List Hd}, HdsOk K F' ρ' σ H H' vs hs → ∀ {j : Nat} {h : Hd}, hs[j]? = some h → ∃ v, vs[j]? = some v ∧ HdOk K F' ρ' σ H H' v h
  | [], [], _, j, h, e => by simp at e
  | v :: vs, g :: hs, ⟨a, b, _⟩, j, h, e => by
    cases j with
    | zero => rw [List.getElem?_cons_zero] at e; cases e; exact ⟨v, rfl, a⟩
    | succ j => rw [List.getElem?_cons_succ] at e; exact HdsOk.get b e
  | [], _ :: _, h, _, _, _ => h.elim
  | _ :: _, [], h, _, _, _ => h.elim
theorem ioAt_some : ∀ {sls : List Sl} {j : Nat}, ioAt sls = some j → ∃ xs, sls[j]? = some (.io xs)
  | [], _, e => by cases e
  | .io xs :: _, j, e => by cases e; exact ⟨xs, rfl⟩
  | .frz _ :: ss, j, e => by
    obtain ⟨i, h, z⟩ := Option.map_eq_some_iff.mp (show (ioAt ss).map (· + 1) = some j from e)
    subst z
    obtain ⟨xs, q⟩ := ioAt_some h
    exact ⟨xs, q⟩
  | .own _ :: ss, j, e => by
    obtain ⟨i, h, z⟩ := Option.map_eq_some_iff.mp (show (ioAt ss).map (· + 1) = some j from e)
    subst z
    obtain ⟨xs, q⟩ := ioAt_some h
    exact ⟨xs, q⟩
  | .obj _ :: ss, j, e => by
    obtain ⟨i, h, z⟩ := Option.map_eq_some_iff.mp (show (ioAt ss).map (· + 1) = some j from e)
    subst z
    obtain ⟨xs, q⟩ := ioAt_some h
    exact ⟨xs, q⟩
theorem ioAt_none : ∀ {sls : List Sl}, ioAt sls = none → ∀ (j : Nat) xs, sls[j]? ≠ some (.io xs)
  | [], _, j, xs, h => by simp at h
  | .io _ :: _, e, _, _, _ => by cases e
  | .frz _ :: ss, e, j, xs, h => by
    cases j with
    | zero => rw [List.getElem?_cons_zero] at h; cases h
    | succ j => exact ioAt_none (Option.map_eq_none_iff.mp e) j xs h
  | .own _ :: ss, e, j, xs, h => by
    cases j with
    | zero => rw [List.getElem?_cons_zero] at h; cases h
    | succ j => exact ioAt_none (Option.map_eq_none_iff.mp e) j xs h
  | .obj _ :: ss, e, j, xs, h => by
    cases j with
    | zero => rw [List.getElem?_cons_zero] at h; cases h
    | succ j => exact ioAt_none (Option.map_eq_none_iff.mp e) j xs h
theorem ioOnce_only : ∀ {sls : List Sl}, ioOnce sls = true → ∀ {i j : Nat} {xs ys : List D}, sls[i]? = some (.io xs) → sls[j]? = some (.io ys) → i = j
  | [], _, i, j, xs, ys, h, _ => by simp at h
  | .io _ :: ss, o, i, j, xs, ys, h1, h2 => by
    have o : (ioAt ss).isNone = true := o
    have n := ioAt_none (Option.isNone_iff_eq_none.mp o)
    cases i with
    | zero =>
      cases j with
      | zero => rfl
      | succ j => exact absurd h2 (n j ys)
    | succ i => exact absurd h1 (n i xs)
  | .frz _ :: ss, o, i, j, xs, ys, h1, h2 => by
    cases i with
    | zero => rw [List.getElem?_cons_zero] at h1; cases h1
    | succ i =>
      cases j with
      | zero => rw [List.getElem?_cons_zero] at h2; cases h2
      | succ j => rw [ioOnce_only (sls := ss) o h1 h2]
  | .obj _ :: ss, o, i, j, xs, ys, h1, h2 => by
    cases i with
    | zero => rw [List.getElem?_cons_zero] at h1; cases h1
    | succ i =>
      cases j with
      | zero => rw [List.getElem?_cons_zero] at h2; cases h2
      | succ j => rw [ioOnce_only (sls := ss) o h1 h2]
  | .own _ :: ss, o, _, _, _, _, _, _ => by cases o
theorem sls_noown : ∀ {hs : List Hd} {sls : List Sl}, slsOf hs ρ = some sls → NoOwn sls := fun {hs sls} e s h xs z => by
  obtain ⟨j, hj⟩ := List.getElem?_of_mem h
  obtain ⟨g, _, q⟩ := (sls_get e).2 j s hj
  subst z
  unfold slOf at q
  split at q
  · cases q
  · cases q
  · split at q <;> cases q
/-- the arguments, as the callee sees them -/
theorem St.args {H0 : Hp} (S : St K F ρ σ H) (hv : HdsOk K F ρ σ H0 H vs hs) (e : slsOf hs ρ = some sls) (o : ioOnce sls = true) : St K F (sls.map some) (vs.map some) H := by
  obtain ⟨l, g⟩ := sls_get e
  refine ⟨by rw [List.length_map, List.length_map, l, hv.len], S.le, fun j s h => ?_, fun i j s t a hi hj ms mt ei ej => ?_, S.tb, S.nt⟩
  · rw [List.getElem?_map] at h
    obtain ⟨s', h, z⟩ := Option.map_eq_some_iff.mp h
    cases z
    obtain ⟨k, hk, q⟩ := g j s h
    obtain ⟨v, ev, ok⟩ := hv.get hk
    refine ⟨v, by rw [List.getElem?_map, ev]; rfl, ?_⟩
    cases k with
    | v r =>
      cases r with
      | fz d => cases q; exact ok
      | fr xs => cases q
    | s i =>
      obtain ⟨eσ, s0, e0⟩ := ok
      obtain ⟨v', ev', ok'⟩ := S.slot i s0 e0
      rw [eσ] at ev'; cases ev'
      unfold slOf at q
      simp only [join_some.mpr e0] at q
      cases s0 with
      | frz d => cases q; exact ok'
      | obj d => cases q; exact ok'
      | own xs => cases q; exact ok'
      | io xs => cases q; exact ok'
  · rw [List.getElem?_map] at hi hj
    obtain ⟨s', hi, z⟩ := Option.map_eq_some_iff.mp hi
    cases z
    obtain ⟨t', hj, z⟩ := Option.map_eq_some_iff.mp hj
    cases z
    have n := sls_noown e
    cases s with
    | frz d => cases ms
    | obj d => cases ms
    | own xs => exact (n _ (List.mem_of_getElem? hi) xs rfl).elim
    | io xs =>
      cases t with
      | frz d => cases mt
      | obj d => cases mt
      | own ys => exact (n _ (List.mem_of_getElem? hj) ys rfl).elim
      | io ys => exact ioOnce_only o hi hj
theorem St.called {B : Addr → Prop} {ρ2 : Ev} (S : St K F ρ σ H) (le : Sub F F') (hle : Sub F' H') (keep : ∀ b o, H b = some o → NT o → ¬ B b → H' b = some o) (tb : LamX.Tabs (tabsK K) H') (dom : ∀ b, NO H' b → NO H b) (new : ∀ b o, F' b = some o → F b = some o ∨ NO H b) (nt : ∀ b o, F' b = some o → NT o)
    (hB : ∀ b, B b → Mu ρ σ b) (hl : ρ2.length = ρ.length) (hsl : ∀ (k : Nat) (s : Sl), ρ2[k]? = some (some s) → (ρ[k]? = some (some s) ∧ (s.mu = true → ∀ a, σ[k]? = some (some (.ref a)) → ¬ B a)) ∨
      (∃ s0 ys a us, ρ[k]? = some (some s0) ∧ s0.mu = true ∧ (s = .own ys ∨ s = .io ys) ∧ σ[k]? = some (some (.ref a)) ∧ H' a = some (.lst us) ∧ F' a = none ∧ RpAll K F' us ys))
    (sl : ∀ k : Nat, SlLe (ρ[k]?).join (ρ2[k]?).join) : StpE K F ρ σ H F' ρ2 H' := by
  have mu0 : ∀ {k : Nat} {s : Sl}, ρ2[k]? = some (some s) → s.mu = true → ∃ s0, ρ[k]? = some (some s0) ∧ s0.mu = true := fun {k s} h m => by
    rcases hsl k s h with ⟨z, _⟩ | ⟨s0, _, _, _, z, m0, _⟩
    · exact ⟨s, z, m⟩
    · exact ⟨s0, z, m0⟩
  have at1 : ∀ {a : Addr} {us : List V}, H a = some (.lst us) → F a = none → ¬ B a → H' a = some (.lst us) ∧ F' a = none := fun {a us} h1 h2 nb => by
    refine ⟨keep _ _ h1 nt_lst nb, ?_⟩
    cases e : F' a with
    | none => rfl
    | some o =>
      rcases new a o e with z | z
      · rw [h2] at z; cases z
      · exact (z.lst h1).elim
  refine ⟨⟨by rw [hl]; exact S.len, hle, fun k s h => ?_, fun i j s t a hi hj ms mt ei ej => ?_, tb, nt⟩, le, fun b o h t n => keep b o h t fun z => n (hB b z), dom, fun b o h => (new b o h).imp id .inl, sl⟩
  · rcases hsl k s h with ⟨z, nb⟩ | ⟨s0, ys, a, us, z, m0, es, ea, h1, h2, h3⟩
    · obtain ⟨v, ev, ok⟩ := S.slot k s z
      refine ⟨v, ev, ?_⟩
      cases s with
      | frz d => exact Rp.mono le _ _ ok
      | obj d => exact ok
      | own xs =>
        obtain ⟨a, us, rfl, h1, h2, h3⟩ := ok
        obtain ⟨g1, g2⟩ := at1 h1 h2 (nb rfl a ev)
        exact ⟨a, us, rfl, g1, g2, RpAll.mono le _ _ h3⟩
      | io xs =>
        obtain ⟨a, us, rfl, h1, h2, h3⟩ := ok
        obtain ⟨g1, g2⟩ := at1 h1 h2 (nb rfl a ev)
        exact ⟨a, us, rfl, g1, g2, RpAll.mono le _ _ h3⟩
    · refine ⟨.ref a, ea, ?_⟩
      rcases es with rfl | rfl
      · exact ⟨a, us, rfl, h1, h2, h3⟩
      · exact ⟨a, us, rfl, h1, h2, h3⟩
  · obtain ⟨s0, z1, m1⟩ := mu0 hi ms
    obtain ⟨t0, z2, m2⟩ := mu0 hj mt
    exact S.inj i j s0 t0 a z1 z2 m1 m2 ei ej
theorem call_step {H0 : Hp} {ρ2 : Ev} (S : St K F ρ σ H) (hv : HdsOk K F ρ σ H0 H vs hs) (e : slsOf hs ρ = some sls) (o : ioOnce sls = true) (c : CallS K F (sls.map some) (vs.map some) H F' ρ' H') (hb : backIo hs sls ρ' ρ = some ρ2) : StpE K F ρ σ H F' ρ2 H' := by
  obtain ⟨l, g⟩ := sls_get e
  have n := sls_noown e
  have muA : ∀ {b : Addr}, Mu (sls.map some) (vs.map some) b → ∃ (j : Nat) (xs : List D), sls[j]? = some (Sl.io xs) ∧ vs[j]? = some (V.ref b) := fun {b} ⟨j, s, h1, h2, h3⟩ => by
    rw [List.getElem?_map] at h1 h3
    obtain ⟨s', h1, z⟩ := Option.map_eq_some_iff.mp h1
    cases z
    obtain ⟨v', h3, z⟩ := Option.map_eq_some_iff.mp h3
    cases z
    cases s with
    | frz d => cases h2
    | obj d => cases h2
    | own xs => exact (n _ (List.mem_of_getElem? h1) xs rfl).elim
    | io xs => exact ⟨j, xs, h1, h3⟩
  unfold backIo at hb
  split at hb
  · rename_i e0
    cases hb
    have nb : ∀ b, ¬ Mu (sls.map some) (vs.map some) b := fun b m => by
      obtain ⟨j, xs, h, _⟩ := muA m
      exact ioAt_none e0 j xs h
    exact S.called (B := Mu (sls.map some) (vs.map some)) c.le c.hle c.keep c.tb c.dom c.new c.nt (fun b m => absurd m (nb b)) rfl (fun k s h => .inl ⟨h, fun _ a _ => nb a⟩) fun k => SlLe.refl _
  · rename_i j e0
    split at hb
    · rename_i i ys eh eρ
      cases hb
      obtain ⟨xs, hj⟩ := ioAt_some e0
      obtain ⟨h, hh, q⟩ := g j _ hj
      rw [eh] at hh; cases hh
      obtain ⟨v, ev, eσ, s0, es0⟩ := hv.get eh
      obtain ⟨ys', a, us, e1, e2, h1, h2, h3⟩ := c.io j xs (by rw [List.getElem?_map, hj]; rfl)
      rw [eρ] at e1; cases e1
      rw [List.getElem?_map, ev] at e2
      cases e2
      have m0 : s0.mu = true ∧ lstAt i ρ = some xs := by
        unfold slOf at q
        simp only [join_some.mpr es0] at q
        unfold lstAt
        cases s0 with
        | frz d => cases q
        | obj d => cases q
        | own zs => cases q; exact ⟨rfl, by rw [es0]⟩
        | io zs => cases q; exact ⟨rfl, by rw [es0]⟩
      obtain ⟨s1, s', hs1, ms1, ms', _, _, sle, est⟩ := lstAt_some (ys := ys) m0.2
      rw [es0] at hs1; cases hs1
      have es' : s' = .own ys ∨ s' = .io ys := by
        have z : setAt i ys ρ = ρ.set i (some s') := est
        unfold setAt at z
        have hi : i < ρ.length := (List.getElem?_eq_some_iff.mp es0).1
        rw [es0] at z
        cases s0 with
        | frz d => cases ms1
        | obj d => cases ms1
        | own zs =>
          have z := congrArg (fun l => l[i]?) z
          simp only [List.getElem?_set_self hi] at z
          cases z; exact .inl rfl
        | io zs =>
          have z := congrArg (fun l => l[i]?) z
          simp only [List.getElem?_set_self hi] at z
          cases z; exact .inr rfl
      have onlyA : ∀ b, Mu (sls.map some) (vs.map some) b → b = a := fun b m => by
        obtain ⟨j', xs', k1, k2⟩ := muA m
        have := ioOnce_only o k1 hj
        subst this
        rw [ev] at k2; cases k2; rfl
      have hi : i < ρ.length := (List.getElem?_eq_some_iff.mp es0).1
      rw [est]
      refine S.called (B := Mu (sls.map some) (vs.map some)) c.le c.hle c.keep c.tb c.dom c.new c.nt (fun b m => ?_) (by rw [List.length_set]) (fun k s h => ?_) fun k => ?_
      · rw [onlyA b m]
        exact ⟨i, s0, es0, m0.1, eσ⟩
      · rcases set_get h with ⟨z, e'⟩ | ⟨z, h⟩
        · subst z; cases e'
          exact .inr ⟨s0, ys, a, us, es0, m0.1, es', eσ, h1, h2, h3⟩
        · refine .inl ⟨h, fun ms b eb m => ?_⟩
          have := onlyA b m
          subst this
          exact z (S.inj k i s s0 b h es0 ms m0.1 eb eσ)
      · by_cases hk : k = i
        · subst hk
          rw [join_some.mpr es0, List.getElem?_set_self hi]
          exact sle
        · rw [List.getElem?_set_ne fun z => hk z.symm]
          exact SlLe.refl _
    · cases hb
end
section
variable {w : Wi} {X : Cx}
/-- what a call promises, from the words of its arguments -/
theorem call_in {pf : PF} {ms : List (M Hd)} {n : Nat} {σ : L2.St} {H : Hp} {Q : VK} (h : tK w (mCall n pf ms) σ H Q) : tCallS (spP w.K w.XR n pf) (WE w.W) (tA w (mArgs ms)) σ H Q := by
  obtain ⟨F, ρ, S, h⟩ := h
  refine ⟨F, ρ, S, (Wp.bind S h).mono fun hs ρ1 F1 H1 ⟨p, q⟩ vs hv => ?_⟩
  unfold callEnd at q
  split at q
  · exact q.elim
  · rename_i sls es
    split at q
    · rename_i ho
      refine ⟨F1, sls, p.st.args hv es ho.2, ho.1, sls_noown es, ?_⟩
      unfold callBack at q
      cases ep : pf sls with
      | bad => rw [ep] at q; exact q.elim
      | ok r ρ' =>
        rw [ep] at q
        intro v F' H' c rv
        dsimp only at q
        split at q
        · rename_i ρ2 eb
          refine q F' H' (call_step p.st hv es ho.2 c eb) v ?_
          cases r with
          | fz d => exact rv
          | fr xs =>
            obtain ⟨a, us, e, h0, h1, h2, h3⟩ := rv
            exact ⟨a, us, e, p.dom a h0, h1, h2, h3⟩
        · exact q.elim
      | exc x ρ' =>
        rw [ep] at q
        intro cls d F' H' c hx
        dsimp only at q
        split at q
        · rename_i ρ2 eb
          exact q F' H' cls d (call_step p.st hv es ho.2 c eb) hx
        · exact q.elim
    · exact q.elim
theorem se_call {pf : PF} {k : Nat} {f : Addr} {fd : FuncData} {ps : List Str} {x : Str} {p pos : Pos} {e : Expr} {es : List Expr} {ms : List (M Hd)} (hK : w.K = X.K) (F : FnOk X.prog X.w X.K X.mg X.base (L2N.CX X.prog X.w) k f fd ps (spP X.K w.XR ps.length pf)) (hr : Room k X.A) (hg : Gl X x) (hm : X.mg x = some (.ref f))
    (hk : PySem.W.keepIn X.K (.ref f) = true) (hb : Binds X.K fd ps []) (tk : L2N.Takes X w.W) (ha : PA X (e :: es) (tA w (mArgs ms))) (hdb : (x == ("__debug__" : Str)) = false) (he : starEach (e :: es) X.env = (false, eval e X.env) :: starEach es X.env) (hpl : (backTo pos (starEach es X.env)).any (·.1) = false) :
    PE X (.Call (.Name x p) (e :: es) [] pos) (tK w (mCall ps.length pf ms)) :=
  PEimp (pe_callS F hr hg hm hk hb (L2N.passAt tk) ha hdb he hpl) fun σ H Q h => by
    have z := call_in h
    rw [hK] at z
    exact z
theorem se_call0 {pf : PF} {k : Nat} {f : Addr} {fd : FuncData} {x : Str} {p pos : Pos} (hK : w.K = X.K) (F : FnOk X.prog X.w X.K X.mg X.base (L2N.CX X.prog X.w) k f fd [] (spP X.K w.XR 0 pf)) (hr : Room k X.A) (hg : Gl X x) (hm : X.mg x = some (.ref f))
    (hk : PySem.W.keepIn X.K (.ref f) = true) (hb : Binds X.K fd [] []) (tk : L2N.Takes X w.W) (hdb : (x == ("__debug__" : Str)) = false) : PE X (.Call (.Name x p) [] [] pos) (tK w (mCall 0 pf [])) := by
  refine ⟨fun pins s σ H Q I h => ?_⟩
  refine wpAny_Call_Name_kw (ld_glob I hg hm ?_ hdb)
  have z := call_in h
  rw [hK] at z
  have z2 : tA w (mArgs []) σ H fun vs H1 => spP X.K w.XR 0 pf vs H1 Q (WE w.W σ) := z
  have z3 : spP X.K w.XR 0 pf [] H Q (WE w.W σ) := by
    obtain ⟨F, ρ, S, h⟩ := z2
    have h : Wp w F ρ σ H (.ok [] ρ) _ := h
    exact h.ok S [] trivial
  exact PySem.W.callWith_K0 I.kIn hk (run_fnS (us := []) F hr hb (L2N.passAt tk σ) I .nil z3)
end
end Pu
set_option Elab.async false
set_option linter.all false
set_option maxRecDepth 100000
set_option maxHeartbeats 1000000
/-! Pu12: the pure layer: isinstance, list(range(..)), tuple(range(..)). -/
namespace Pu
open PySem L2 PyProof.Rows
/-! ### isinstance(e, T) -/
def isaD (T : String) (d : D) : Option Bool :=
  if T = "int" then some d.isInt else if T = "bool" then some d.isBool else if T = "str" then some d.isStr else if T = "tuple" then some d.isTuple else if T = "list" then some d.isList else if T = "dict" then some d.isDict else none
def fIsa (T : String) (d : D) : Option RV := (isaD T d).map fun b => .fz (.bool b)
def rIsaD (K : PySem.W.Frag) : List V → Hp → VK → Prop := fun xs H Q => ∃ x T d b, xs = [x, .ty T] ∧ Rp K H x d ∧ isaD T d = some b ∧ Q (.bl b) H
theorem call_isaD {X : Cx} : CallR X (.builtin "isinstance") (rIsaD X.K) := by
  intro pins s σ H xs us Q I r h
  obtain ⟨x, T, d, b, rfl, rp, ei, q⟩ := h
  cases r with
  | cons rx rr =>
    cases rr with
    | cons rt rr =>
      cases rr
      cases rt
      obtain ⟨as, rd⟩ := Rp.reads I rp rx
      have fin : ∀ tk, EP X pins σ Q (.bool b) { s with toks := tk } := fun tk => ⟨.bl b, H, I.kept (t' := tk) fun _ _ z => z, rfl, q⟩
      unfold isaD at ei
      split at ei
      · rename_i e; subst e; cases ei; exact PySem.W.isinstance_int_data rd fun tk _ => fin tk
      split at ei
      · rename_i e; subst e; cases ei; exact PySem.W.isinstance_bool_data rd fun tk _ => fin tk
      split at ei
      · rename_i e; subst e; cases ei; exact PySem.W.isinstance_str_data rd fun tk _ => fin tk
      split at ei
      · rename_i e; subst e; cases ei; exact PySem.W.isinstance_tuple_data rd fun tk _ => fin tk
      split at ei
      · rename_i e; subst e; cases ei; exact PySem.W.isinstance_list_data rd fun tk _ => fin tk
      split at ei
      · rename_i e; subst e; cases ei; exact PySem.W.isinstance_dict_data rd fun tk _ => fin tk
      · cases ei
section
variable {w : Wi} {X : Cx}
theorem se_isa {a : Expr} {T : Str} {t : String} {p p2 pos : Pos} {m : M Hd} (hK : w.K = X.K) (hg : Gl X "isinstance") (hm : X.mg "isinstance" = none) (hgT : Gl X T) (hmT : X.mg T = none) (hv : bootBuiltins T = some (.type t)) (hn : T ≠ "__name__") (hd : (T == ("__debug__" : Str)) = false) (ha : PE X a (tK w m))
    (h1 : starEach [a, .Name T p2] X.env = (false, eval a X.env) :: starEach [.Name T p2] X.env) : PE X (.Call (.Name "isinstance" p) [a, .Name T p2] [] pos) (tK w (mUn (fIsa t) m)) := by
  have hA : PA X [a, .Name T p2] (tCons (tK w m) (tCons (tC (.ty t)) tNil)) := pa_cons ha (pa_cons (pe_bltn hgT hmT hv (v := .ty t) rfl hn hd) pa_nil rfl) h1
  refine PEimp (pe_callB call_isaD hg hm PyProof.Rows.boot_isinstance hA (by decide) (by decide) h1 (by rfl)) fun σ H Q h => ?_
  have op : Op1 w.K (fun v H Q => rIsaD X.K [v, .ty t] H Q) (fIsa t) := by
    intro F H x d rv Q s px hf k
    unfold fIsa at hf
    obtain ⟨b, eb, rfl⟩ := Option.map_eq_some_iff.mp hf
    exact ⟨x, t, d, b, rfl, hK ▸ px.rpH s, eb, k _ _ _ (.val s (.bl _))⟩
  exact op1_in op h

/-! ### list(range(..)), tuple(range(..)) -/
def rgFit (a b : Int) : Bool := rgOk a b && decide ((b - a).toNat ≤ 16777216)
theorem rgFit_of {a b : Int} (h : rgFit a b = true) : RgOk a b := by
  unfold rgFit at h
  simp only [Bool.and_eq_true, decide_eq_true_eq] at h
  obtain ⟨h1, h2, h3, h4⟩ := rgOk_of h.1
  exact ⟨h1, h2, h3, h4, h.2⟩
def fRL1 (d : D) : Option RV := match d with
  | .int n => if rgFit 0 n = true then some (.fr (rgD 0 n)) else none
  | _ => none
def fRL2 (d e : D) : Option RV := match d, e with
  | .int i, .int j => if rgFit i j = true then some (.fr (rgD i j)) else none
  | _, _ => none
def fRT1 (d : D) : Option RV := match d with
  | .int n => if rgFit 0 n = true then some (.fz (.tuple (rgD 0 n))) else none
  | _ => none
def fRT2 (d e : D) : Option RV := match d, e with
  | .int i, .int j => if rgFit i j = true then some (.fz (.tuple (rgD i j))) else none
  | _, _ => none
theorem rgV_ok {K : PySem.W.Frag} {F : Hp} (a b : Int) : RpAll K F (rgV a b) (rgD a b) := by
  unfold rgV rgD
  generalize List.range (b - a).toNat = l
  induction l with
  | nil => exact .nil
  | cons i l ih => exact .cons (.int _) ih
theorem se_rl1 {a : Expr} {p p2 pos pos2 : Pos} {m : M Hd} (hc : X.calm = true) (hg : Gl X "list") (hm : X.mg "list" = none) (hg2 : Gl X "range") (hm2 : X.mg "range" = none) (ha : PE X a (tK w m)) (h1 : starEach [a] X.env = (false, eval a X.env) :: starEach [] X.env) :
    PE X (.Call (.Name "list" p) [.Call (.Name "range" p2) [a] [] pos2] [] pos) (tK w (mUn fRL1 m)) := by
  refine PEimp (pe_listRg hc hg hm (prg_1 hg2 hm2 ha h1) rfl) fun σ H Q h => ?_
  have op : Op1 w.K (fun x H Q => ∃ n, x = .int n ∧ RgOk 0 n ∧ ∀ q, H q = none → Q (.ref q) (upd H q (.lst (rgV 0 n)))) fRL1 := by
    intro F H x d rv Q s px hf k
    cases d <;> simp only [fRL1] at hf <;> try (cases hf; done)
    split at hf
    · rename_i n hz
      cases hf
      exact ⟨n, px.int, rgFit_of hz, fun q hq => k _ _ _ (.lst s hq (rgV_ok 0 n))⟩
    · cases hf
  exact op1_in op h
theorem se_rt1 {a : Expr} {p p2 pos pos2 : Pos} {m : M Hd} (hK : w.K = X.K) (hc : X.calm = true) (hg : Gl X "tuple") (hm : X.mg "tuple" = none) (hg2 : Gl X "range") (hm2 : X.mg "range" = none) (ha : PE X a (tK w m)) (h1 : starEach [a] X.env = (false, eval a X.env) :: starEach [] X.env) :
    PE X (.Call (.Name "tuple" p) [.Call (.Name "range" p2) [a] [] pos2] [] pos) (tK w (mUn fRT1 m)) := by
  refine PEimp (pe_tupRg hc hg hm (prg_1 hg2 hm2 ha h1) rfl) fun σ H Q h => ?_
  have op : Op1 w.K (fun x H Q => ∃ n, x = .int n ∧ RgOk 0 n ∧ ∀ q, H q = none → Q (.ref q) (upd H q (.tup (rgV 0 n)))) fRT1 := by
    intro F H x d rv Q s px hf k
    cases d <;> simp only [fRT1] at hf <;> try (cases hf; done)
    split at hf
    · rename_i n hz
      cases hf
      exact ⟨n, px.int, rgFit_of hz, fun q hq => k _ _ _ (.tup s hq (rgV_ok 0 n))⟩
    · cases hf
  exact op1_in op h
theorem se_rl2 {a b : Expr} {p p2 pos pos2 : Pos} {m m2 : M Hd} (hc : X.calm = true) (hg : Gl X "list") (hm : X.mg "list" = none) (hg2 : Gl X "range") (hm2 : X.mg "range" = none) (ha : PE X a (tK w m)) (hb : PE X b (tK w m2)) (h1 : starEach [a, b] X.env = (false, eval a X.env) :: starEach [b] X.env) (h2 : starEach [b] X.env = (false, eval b X.env) :: starEach [] X.env) (h3 : (backTo pos2 (starEach [b] X.env)).any (·.1) = false) :
    PE X (.Call (.Name "list" p) [.Call (.Name "range" p2) [a, b] [] pos2] [] pos) (tK w (mBin fRL2 m m2)) := by
  refine PEimp (pe_listRg hc hg hm (prg_2 hg2 hm2 ha hb h1 h2 h3) rfl) fun σ H Q h => ?_
  have op : Op2 w.K (fun x y H Q => ∃ i j, x = .int i ∧ y = .int j ∧ RgOk i j ∧ ∀ q, H q = none → Q (.ref q) (upd H q (.lst (rgV i j)))) fRL2 := by
    intro F H x y d e rv Q s px py hf k
    cases d <;> cases e <;> simp only [fRL2] at hf <;> try (cases hf; done)
    split at hf
    · rename_i i j hz
      cases hf
      exact ⟨i, j, px.int, py.int, rgFit_of hz, fun q hq => k _ _ _ (.lst s hq (rgV_ok i j))⟩
    · cases hf
  exact op2_in op h
theorem se_rt2 {a b : Expr} {p p2 pos pos2 : Pos} {m m2 : M Hd} (hc : X.calm = true) (hg : Gl X "tuple") (hm : X.mg "tuple" = none) (hg2 : Gl X "range") (hm2 : X.mg "range" = none) (ha : PE X a (tK w m)) (hb : PE X b (tK w m2)) (h1 : starEach [a, b] X.env = (false, eval a X.env) :: starEach [b] X.env) (h2 : starEach [b] X.env = (false, eval b X.env) :: starEach [] X.env) (h3 : (backTo pos2 (starEach [b] X.env)).any (·.1) = false) :
    PE X (.Call (.Name "tuple" p) [.Call (.Name "range" p2) [a, b] [] pos2] [] pos) (tK w (mBin fRT2 m m2)) := by
  refine PEimp (pe_tupRg hc hg hm (prg_2 hg2 hm2 ha hb h1 h2 h3) rfl) fun σ H Q h => ?_
  have op : Op2 w.K (fun x y H Q => ∃ i j, x = .int i ∧ y = .int j ∧ RgOk i j ∧ ∀ q, H q = none → Q (.ref q) (upd H q (.tup (rgV i j)))) fRT2 := by
    intro F H x y d e rv Q s px py hf k
    cases d <;> cases e <;> simp only [fRT2] at hf <;> try (cases hf; done)
    split at hf
    · rename_i i j hz
      cases hf
      exact ⟨i, j, px.int, py.int, rgFit_of hz, fun q hq => k _ _ _ (.tup s hq (rgV_ok i j))⟩
    · cases hf
  exact op2_in op h
end
theorem ite_some' {α : Type} {c : Prop} [Decidable c] {a b : Option α} {f : α} (h : (if c then a else b) = some f) : (c ∧ a = some f) ∨ (¬ c ∧ b = some f) := by
  by_cases hc : c
  · rw [if_pos hc] at h; exact .inl ⟨hc, h⟩
  · rw [if_neg hc] at h; exact .inr ⟨hc, h⟩
/-! ### sep.join(xs) -/
def strsOf : List D → Option (List Str)
  | [] => some []
  | .str x :: r => (strsOf r).map (x :: ·)
  | _ :: _ => none
theorem strsOf_ok {K : PySem.W.Frag} {F : Hp} : ∀ {ds : List D} {vs : List V} {ys : List Str}, RpAll K F vs ds → strsOf ds = some ys → vs = ys.map V.str
  | [], _, _, r, h => by cases r; cases h; rfl
  | d :: ds, _, ys, r, h => by
    cases r with
    | cons a b =>
      cases d with
      | str x =>
        obtain ⟨zs, e, rfl⟩ := Option.map_eq_some_iff.mp (show (strsOf ds).map (x :: ·) = some ys from h)
        cases a
        rw [strsOf_ok b e]
        rfl
      | _ => cases h
def joinF (sep : Str) (ys : List Str) : Option RV := if (ys.map (·.length)).sum + ys.length * sep.length ≤ lim then some (.fz (.str (Txt.join sep ys))) else none
def fJoin (sep : Str) (d : D) : Option RV := match d with
  | .list xs => (strsOf xs).bind (joinF sep)
  | .tuple xs => (strsOf xs).bind (joinF sep)
  | _ => none
section
variable {w : Wi} {X : Cx}
theorem se_join {sep : Str} {e : Expr} {j : Nat} {p apos pos : Pos} {m : M Hd} (hK : w.K = X.K) (he : PE X e (tK w m)) (hs : starEach [e] X.env = [(false, eval e X.env)]) (hline : (apos.endLine == pos.line) = true) :
    PE X (.Call (.Attribute (.Constant (.str sep) j p) "join" apos) [e] [] pos) (tK w (mUn (fJoin sep) m)) := by
  refine PEimp (pe_join (o := .Constant (.str sep) j p) pe_str he hs rfl hline) fun σ H Q h => ⟨⟨_, rfl⟩, ?_⟩
  have fin : ∀ {ys : List Str} {rv : RV} {F H : Hp} {Q : VK}, Sub F H → joinF sep ys = some rv → (∀ v F' H', Mk w.K F H v F' H' rv → Q v H') → (ys.map (·.length)).sum + ys.length * sep.length ≤ 16777216 ∧ Q (.str (Txt.join sep ys)) H := fun {ys rv F H Q} s h k => by
    unfold joinF at h
    rcases ite_some' h with ⟨hz, h⟩ | ⟨_, h⟩
    · cases h
      exact ⟨hz, k _ _ _ (.val s (.str _))⟩
    · cases h
  have op : Op1 w.K (fun v H Q => ∃ a p, ∃ ys : List Str, V.str sep = .str a ∧ [v] = [.ref p] ∧ (SqL X.K H p (ys.map V.str) ∨ SqT X.K H p (ys.map V.str)) ∧ (ys.map (·.length)).sum + ys.length * a.length ≤ 16777216 ∧ Q (.str (Txt.join a ys)) H) (fJoin sep) := by
    intro F H x d rv Q s px hf k
    unfold fJoin at hf
    split at hf
    · obtain ⟨ys, e1, e2⟩ := Option.bind_eq_some_iff.mp hf
      obtain ⟨a, vs, rfl, q, r⟩ := px.lst s
      obtain ⟨z1, z2⟩ := fin s e2 k
      exact ⟨sep, a, ys, rfl, rfl, .inl (.inl (strsOf_ok r e1 ▸ q)), z1, z2⟩
    · obtain ⟨ys, e1, e2⟩ := Option.bind_eq_some_iff.mp hf
      obtain ⟨a, vs, rfl, q, r⟩ := px.tup
      obtain ⟨z1, z2⟩ := fin s e2 k
      exact ⟨sep, a, ys, rfl, rfl, .inr (strsOf_ok r e1 ▸ hK ▸ s.sqT q), z1, z2⟩
    · cases hf
  exact op1_in op h
end
end Pu
set_option Elab.async false
set_option linter.all false
set_option maxRecDepth 100000
set_option maxHeartbeats 4000000
/-! Pc1: the pure layer: comprehensions with two clauses. -/
namespace Pu
open PySem L2 PyProof.Rows
theorem back0 {K : PySem.W.Frag} {F1 Fi H1 H' : Hp} {ρ1 ρi : Ev} {σ : L2.St} {vs : List Nat} (S1 : St K F1 ρ1 σ H1) (p : StpE K F1 (wipeE vs ρ1) (L2.wipe σ vs) H1 Fi ρi H') : StpE K F1 ρ1 σ H1 Fi (backE vs ρ1 ρi) H' := by
  have hl : ρi.length = ρ1.length := by
    have a := p.st.len
    rw [wipe_length] at a
    rw [a, S1.len]
  have get : ∀ {i : Nat} {s : Sl}, (backE vs ρ1 ρi)[i]? = some (some s) → (i ∈ vs ∧ ρ1[i]? = some (some s)) ∨ (i ∉ vs ∧ ρi[i]? = some (some s)) := fun {i s} h => by
    have z := join_some.mpr h
    rw [backE_join hl] at z
    by_cases hi : i ∈ vs
    · rw [if_pos hi] at z; exact .inl ⟨hi, join_some.mp z⟩
    · rw [if_neg hi] at z; exact .inr ⟨hi, join_some.mp z⟩
  have hid : ∀ {i : Nat} {s : Sl} {a : Addr}, i ∈ vs → ρ1[i]? = some (some s) → s.mu = true → σ[i]? = some (some (.ref a)) → ¬ Mu (wipeE vs ρ1) (L2.wipe σ vs) a := fun {i s a} hi hs ms e m => by
    obtain ⟨j, t, ht, mt, et⟩ := m
    obtain ⟨h1, h2⟩ := wipeE_get.mp ht
    rw [wipe_out h1] at et
    exact h1 (S1.inj i j s t a hs h2 ms mt e et ▸ hi)
  have hidA : ∀ {i : Nat} {s : Sl} {a : Addr} {us : List V}, i ∈ vs → ρ1[i]? = some (some s) → s.mu = true → σ[i]? = some (some (.ref a)) → H1 a = some (.lst us) → F1 a = none → H' a = some (.lst us) ∧ Fi a = none := fun {i s a us} hi hs ms e h1 hF => by
    have nm := hid hi hs ms e
    refine ⟨p.keep a _ h1 nt_lst nm, ?_⟩
    cases eF : Fi a with
    | none => rfl
    | some o =>
      rcases p.new a o eF with z | z | z
      · rw [hF] at z; cases z
      · exact (z.lst h1).elim
      · exact absurd z nm
  refine ⟨⟨by unfold backE; rw [over_len, hl]; exact S1.len, p.st.le, fun i s hs => ?_, fun i j s t a hi hj ms mt ei ej => ?_, p.st.tb, p.st.nt⟩, p.le, fun b o h t n => p.keep b o h t fun m => n m.wipe, p.dom, fun b o h => (p.new b o h).imp id (Or.imp id Mu.wipe), fun i => ?_⟩
  · rcases get hs with ⟨hi, hs⟩ | ⟨hi, hs⟩
    · obtain ⟨v, e, ok⟩ := S1.slot i s hs
      refine ⟨v, e, ?_⟩
      cases s with
      | frz d => exact Rp.mono p.le _ _ ok
      | obj d => exact ok
      | own xs =>
        obtain ⟨a, us, h1, h2, h3, h4⟩ := ok
        subst h1
        obtain ⟨g1, g2⟩ := hidA hi hs rfl e h2 h3
        exact ⟨a, us, rfl, g1, g2, RpAll.mono p.le _ _ h4⟩
      | io xs =>
        obtain ⟨a, us, h1, h2, h3, h4⟩ := ok
        subst h1
        obtain ⟨g1, g2⟩ := hidA hi hs rfl e h2 h3
        exact ⟨a, us, rfl, g1, g2, RpAll.mono p.le _ _ h4⟩
    · obtain ⟨v, e, ok⟩ := p.st.slot i s hs
      rw [wipe_out hi] at e
      exact ⟨v, e, ok⟩
  · rcases get hi with ⟨gi, hi⟩ | ⟨gi, hi⟩
    · rcases get hj with ⟨gj, hj⟩ | ⟨gj, hj⟩
      · exact S1.inj i j s t a hi hj ms mt ei ej
      · exact absurd (p.mu ⟨j, t, hj, mt, by rw [wipe_out gj]; exact ej⟩) (hid gi hi ms ei)
    · rcases get hj with ⟨gj, hj⟩ | ⟨gj, hj⟩
      · exact absurd (p.mu ⟨i, s, hi, ms, by rw [wipe_out gi]; exact ei⟩) (hid gj hj mt ej)
      · exact p.st.inj i j s t a hi hj ms mt (by rw [wipe_out gi]; exact ei) (by rw [wipe_out gj]; exact ej)
  · rw [backE_join hl]
    by_cases hi : i ∈ vs
    · rw [if_pos hi]; exact SlLe.refl _
    · rw [if_neg hi]
      have z := p.sl i
      rw [wipeE_join, if_neg hi] at z
      exact z
/-- the list that is made taken out -/
theorem St.er {K : PySem.W.Frag} {F H : Hp} {ρ : Ev} {σ : L2.St} {A : Addr} {us : List V} (S : St K F ρ σ H) (hA : H A = some (.lst us)) (hF : F A = none) (nm : ¬ Mu ρ σ A) : St K F ρ σ (era A H) := by
  refine ⟨S.len, fun b o h => by rw [era_ne fun z => by rw [z, hF] at h; cases h]; exact S.le b o h, fun i s hs => ?_, S.inj, tabs_out S.tb hA fun b o n h => (era_ne n).trans h, S.nt⟩
  obtain ⟨v, e, ok⟩ := S.slot i s hs
  refine ⟨v, e, ?_⟩
  cases s with
  | frz d => exact ok
  | obj d => exact ok
  | own xs =>
    obtain ⟨a, us, h1, h2, h3⟩ := ok
    subst h1
    exact ⟨a, us, rfl, by rw [era_ne fun z => nm ⟨i, _, hs, rfl, by rw [← z]; exact e⟩]; exact h2, h3⟩
  | io xs =>
    obtain ⟨a, us, h1, h2, h3⟩ := ok
    subst h1
    exact ⟨a, us, rfl, by rw [era_ne fun z => nm ⟨i, _, hs, rfl, by rw [← z]; exact e⟩]; exact h2, h3⟩
/-- the clause within -/
def compIn (vs1 : List Nat) (mi1 : M (List D)) (tg1 : Tg) (cond1 elt : M Hd) : M (List D) := fun ρ => (mi1 ρ).bind fun ds ρ1 =>
  if ds.length ≤ lim then (noExc (compRun vs1 tg1 cond1 elt ds (wipeE vs1 ρ1))).bind fun xs ρ2 => .ok xs (backE vs1 ρ1 ρ2) else .bad
def compRun2 (vs : List Nat) (tg : Tg) (cond : M Hd) (inn : M (List D)) : List D → M (List D)
  | [] => fun ρ => .ok [] ρ
  | d :: ds => fun ρ => match asg tg d ρ with
    | none => .bad
    | some ρ1 => (cond ρ1).bind fun hb ρ2 => match asB hb ρ2 with
      | some true => (inn ρ2).bind fun es ρ3 => (compRun2 vs tg cond inn ds (wipeE vs ρ3)).bind fun fs ρ4 => .ok (es ++ fs) ρ4
      | some false => compRun2 vs tg cond inn ds (wipeE vs ρ2)
      | none => .bad
def mComp2 (vs vs1 : List Nat) (mi : M (List D)) (tg : Tg) (cond : M Hd) (mi1 : M (List D)) (tg1 : Tg) (cond1 elt : M Hd) : M Hd := fun ρ => (mi ρ).bind fun ds ρ1 =>
  if ds.length ≤ lim then (noExc (compRun2 vs tg cond (compIn vs1 mi1 tg1 cond1 elt) ds (wipeE vs ρ1))).bind fun xs ρ2 => if xs.length ≤ lim then .ok (.v (.fr xs)) (backE vs ρ1 ρ2) else .bad else .bad
theorem noExc_eq {α : Type} {r : Res α} {a : α} {ρ : Ev} (h : noExc r = .ok a ρ) : r = .ok a ρ := by
  cases r with
  | ok b ρ' => exact h
  | exc x ρ' => cases h
  | bad => cases h
theorem bind_some {α β : Type} {r : Res α} {f : α → M β} {b : β} {ρ : Ev} (h : r.bind f = .ok b ρ) : ∃ a ρ1, r = .ok a ρ1 ∧ f a ρ1 = .ok b ρ := by
  cases r with
  | ok a ρ1 => exact ⟨a, ρ1, rfl, h⟩
  | exc x ρ1 => cases h
  | bad => cases h
section
variable {w : Wi}
theorem comp2_in {vs vs1 : List Nat} {mi mi1 : M (List D)} {tg tg1 : Tg} {cond cond1 elt : M Hd} {σ : L2.St} {H : Hp} {Q : VK} (hs : ∀ i ∈ tg.slots, i ∈ vs) (hs1 : ∀ i ∈ tg1.slots, i ∈ vs1) (hv : ∀ i ∈ vs1, i ∈ vs) (h : tK w (mComp2 vs vs1 mi tg cond mi1 tg1 cond1 elt) σ H Q) :
    tLc2 (tI w mi) (tG w.blk tg) (tT w.blk cond) (tI w.blk mi1) (tG w.blk tg1) (tT w.blk cond1) (tK w.blk (mEsc elt)) vs vs1 σ H Q := by
  obtain ⟨F, ρ, S, h⟩ := h
  refine ⟨F, ρ, S, (Wp.bind S h).mono fun ds ρ1 F1 H1 ⟨p, q⟩ J hJ A hA => ?_⟩
  split at q
  case isFalse => exact q.elim
  rename_i hlim
  obtain ⟨xs0, ρ0, e0, q⟩ := noExc_ok q
  split at q
  case isFalse => exact q.elim
  rename_i hlim2
  have S1 := p.st
  have Sw := S1.wipe vs
  have eE : era A (upd H1 A (.lst [])) = H1 := by rw [era_upd, era_none hA]
  let inn := compIn vs1 mi1 tg1 cond1 elt
  let W : Nat → Nat → Hp → Prop := fun i m H' => m = ds.length - i ∧ i ≤ ds.length ∧ ∃ Fi ρi acc accV, StpE w.K F1 (wipeE vs ρ1) (L2.wipe σ vs) H1 Fi ρi (era A H') ∧ wipeE vs ρi = ρi ∧ H' A = some (.lst accV) ∧ RpAll w.K Fi accV acc ∧
    (compRun2 vs tg cond inn (ds.drop i) ρi).bind (fun es ρ' => .ok (acc ++ es) ρ') = .ok xs0 ρ0
  refine ⟨W, ⟨ds.length, by simp, Nat.zero_le _, F1, wipeE vs ρ1, [], [], by rw [eE]; exact .refl Sw, wipeE_idem, upd_same, .nil, ?_⟩, ?_⟩
  · rw [List.drop_zero, e0]; rfl
  rintro i m H' ⟨rfl, hi, Fi, ρi, acc, accV, pi, hwi, hHA, hr, heq⟩
  have Si : St w.K Fi ρi (L2.wipe σ vs) H' := pi.st.uner
  have sF1 : Sub F1 H' := pi.le.trans Si.le
  have hHA' : ∃ us, H' A = some (.lst us) := ⟨_, hHA⟩
  by_cases hlt : i < ds.length
  · refine .inr ⟨hJ.go i H' sF1 hlt, W (i + 1) (ds.length - (i + 1)), fun H'' h => ⟨_, by omega, h⟩, fun x H2 hy => ?_⟩
    obtain ⟨d, hd⟩ := at_some hlt
    obtain ⟨F2, mk⟩ := hJ.yld i d x H' H2 Fi pi.le Si.le hd hy
    have p2 := Si.made mk
    obtain ⟨hA2, p2e⟩ := StpE.era pi.st hHA' p2
    have hdrop : ds.drop i = d :: ds.drop (i + 1) := by
      rw [List.drop_eq_getElem_cons hlt]
      rw [List.getElem?_eq_getElem hlt] at hd
      cases hd; rfl
    rw [hdrop] at heq
    unfold compRun2 at heq
    cases ea : asg tg d ρi with
    | none => rw [ea] at heq; cases heq
    | some ρa =>
      rw [ea] at heq
      refine ⟨F2, ρi, d, ρa, p2.st, mk.rv, ea, fun σ2 S2 c2 mu2 => ⟨by rw [wipe_chg c2 hs, wipe_wipe], ?_⟩⟩
      refine ⟨F2, ρa, S2, ?_⟩
      have ρe : ∀ j : Nat, j ∉ vs → (ρa[j]?).join = (ρi[j]?).join := fun j hj => by rw [asg_ne ea fun z => hj (hs j z)]
      have hA2' : ∃ us, H2 A = some (.lst us) := by rw [hA2]; exact hHA'
      have fin0 : ∀ {F3 H3 : Hp} {ρ3 : Ev}, StpE w.K F2 ρa σ2 (era A H2) F3 ρ3 (era A H3) → StpE w.K F1 (wipeE vs ρ1) (L2.wipe σ vs) H1 F3 (wipeE vs ρ3) (era A H3) := fun {F3 H3 ρ3} p3 =>
        (pi.trans Sw p2e).trans Sw (turn_step p2e.st hwi c2 hs ρe mu2 p3)
      have hF2 : F2 A = none := by
        cases e : F2 A with
        | none => rfl
        | some o => have z := p2e.st.le A o e; rw [era_self] at z; cases z
      have nmA : ¬ Mu ρa σ2 A := fun m => by
        obtain ⟨⟨us, e⟩, _⟩ := pi.st.mu_some (mu2 A m)
        rw [era_self] at e; cases e
      obtain ⟨us2, hus2⟩ := hA2'
      have S2e : St w.K F2 ρa σ2 (era A H2) := S2.er hus2 hF2 nmA
      have er2 : ∀ {F3 H3 : Hp} {ρ3 : Ev}, StpE w.K F2 ρa σ2 H2 F3 ρ3 H3 → H3 A = some (.lst accV) ∧ StpE w.K F2 ρa σ2 (era A H2) F3 ρ3 (era A H3) := fun {F3 H3 ρ3} p3 => by
        obtain ⟨g1, g2⟩ := StpE.era S2e ⟨us2, hus2⟩ p3
        exact ⟨by rw [g1, hA2, hHA], g2⟩
      have heq : ((cond ρa).bind fun hb ρ2 => match asB hb ρ2 with
        | some true => (inn ρ2).bind fun es ρ3 => (compRun2 vs tg cond inn (ds.drop (i + 1)) (wipeE vs ρ3)).bind fun fs ρ4 => .ok (es ++ fs) ρ4
        | some false => compRun2 vs tg cond inn (ds.drop (i + 1)) (wipeE vs ρ2)
        | none => .bad).bind (fun es ρ' => .ok (acc ++ es) ρ') = .ok xs0 ρ0 := heq
      cases ec : cond ρa with
      | bad => rw [ec] at heq; cases heq
      | exc x ρx => rw [ec] at heq; cases heq
      | ok hb ρb =>
        rw [ec] at heq
        intro F3 H3 p3
        have heq : (match asB hb ρb with
          | some true => (inn ρb).bind fun es ρ3 => (compRun2 vs tg cond inn (ds.drop (i + 1)) (wipeE vs ρ3)).bind fun fs ρ4 => .ok (es ++ fs) ρ4
          | some false => compRun2 vs tg cond inn (ds.drop (i + 1)) (wipeE vs ρb)
          | none => .bad : Res (List D)).bind (fun es ρ' => .ok (acc ++ es) ρ') = .ok xs0 ρ0 := heq
        cases eb : asB hb ρb with
        | none => rw [eb] at heq; cases heq
        | some b =>
          rw [eb] at heq
          refine ⟨b, asB_some eb, ?_⟩
          obtain ⟨hA3, t3⟩ := er2 p3
          cases b with
          | false => exact ⟨rfl, hlt, F3, wipeE vs ρb, acc, accV, fin0 t3, wipeE_idem, hA3, RpAll.mono (p2.le.trans p3.le) _ _ hr, heq⟩
          | true =>
            refine ⟨F3, ρb, p3.st, ?_⟩
            have heq : ((inn ρb).bind fun es ρ3 => (compRun2 vs tg cond inn (ds.drop (i + 1)) (wipeE vs ρ3)).bind fun fs ρ4 => .ok (es ++ fs) ρ4).bind (fun es ρ' => .ok (acc ++ es) ρ') = .ok xs0 ρ0 := heq
            obtain ⟨ez, ρz, hz1, hz2⟩ := bind_some heq
            obtain ⟨es0, ρq, hin, hz1⟩ := bind_some hz1
            obtain ⟨fs, ρf, hfs, hz1⟩ := bind_some hz1
            have hz3 : ez = es0 ++ fs ∧ ρz = ρf := by cases hz1; exact ⟨rfl, rfl⟩
            obtain ⟨rfl, rfl⟩ := hz3
            obtain ⟨ds1, ρc, hmi, hin⟩ := bind_some (show (mi1 ρb).bind _ = _ from hin)
            split at hin
            case isFalse => cases hin
            rename_i hl1
            obtain ⟨es1, ρd, hrun, hin⟩ := bind_some hin
            cases hin
            have hrun := noExc_eq hrun
            have htot : acc.length + es0.length ≤ 16777216 := by
              have z : (acc ++ (es0 ++ fs)).length ≤ 16777216 := by
                have e : xs0 = acc ++ (es0 ++ fs) := by
                  have hz2 : Res.ok (acc ++ (es0 ++ fs)) ρz = .ok xs0 ρ0 := hz2
                  cases hz2; rfl
                rw [← e]; exact hlim2
              rw [List.length_append, List.length_append] at z
              omega
            have heq2 : (compRun2 vs tg cond inn (ds.drop (i + 1)) (wipeE vs (backE vs1 ρc ρd))).bind (fun es ρ' => .ok ((acc ++ es0) ++ es) ρ') = .ok xs0 ρ0 := by
              rw [hfs]
              show Res.ok ((acc ++ es0) ++ fs) ρz = _
              rw [List.append_assoc]
              exact hz2
            rw [hmi]
            intro F4 H4 p4 J1 hJ1
            obtain ⟨hA4, t4⟩ := er2 (p3.trans S2 p4)
            have S4e := t4.st
            have hr4 := RpAll.mono (p2.le.trans (p3.le.trans p4.le)) _ _ hr
            let W1 : Nat → Nat → Hp → Prop := fun j k H'' => k = ds1.length - j ∧ j ≤ ds1.length ∧ ∃ Fj ρj acc1 accV1, StpE w.K F4 (wipeE vs1 ρc) (L2.wipe σ2 vs1) (era A H4) Fj ρj (era A H'') ∧ wipeE vs1 ρj = ρj ∧ H'' A = some (.lst accV1) ∧ RpAll w.K Fj accV1 (acc ++ acc1) ∧
              (compRun vs1 tg1 cond1 elt (ds1.drop j) ρj).bind (fun es ρ' => .ok (acc1 ++ es) ρ') = .ok es0 ρd
            refine ⟨W1, ⟨ds1.length, by simp, Nat.zero_le _, F4, wipeE vs1 ρc, [], accV, .refl (S4e.wipe vs1), wipeE_idem, hA4, by rw [List.append_nil]; exact hr4, ?_⟩, ?_⟩
            · rw [List.drop_zero, hrun]; rfl
            rintro j k H5 ⟨rfl, hj, Fj, ρj, acc1, accV1, pj, hwj, hHAj, hrj, heqj⟩
            have Sj : St w.K Fj ρj (L2.wipe σ2 vs1) H5 := pj.st.uner
            have sF4 : Sub F4 H5 := pj.le.trans Sj.le
            have Sw1 := S4e.wipe vs1
            by_cases hltj : j < ds1.length
            · refine .inr ⟨hJ1.go j H5 sF4 hltj, W1 (j + 1) (ds1.length - (j + 1)), fun H'' h => ⟨_, by omega, h⟩, fun y H6 hy1 => ?_⟩
              obtain ⟨d1, hd1⟩ := at_some hltj
              obtain ⟨F6, mk6⟩ := hJ1.yld j d1 y H5 H6 Fj pj.le Sj.le hd1 hy1
              have p6 := Sj.made mk6
              obtain ⟨hA6, p6e⟩ := StpE.era pj.st ⟨_, hHAj⟩ p6
              have hdropj : ds1.drop j = d1 :: ds1.drop (j + 1) := by
                rw [List.drop_eq_getElem_cons hltj]
                rw [List.getElem?_eq_getElem hltj] at hd1
                cases hd1; rfl
              rw [hdropj] at heqj
              unfold compRun at heqj
              cases ea1 : asg tg1 d1 ρj with
              | none => rw [ea1] at heqj; cases heqj
              | some ρk =>
                rw [ea1] at heqj
                refine ⟨F6, ρj, d1, ρk, p6.st, mk6.rv, ea1, fun σ3 S3 c3 mu3 => ⟨by rw [wipe_chg c3 hs1, wipe_wipe], ?_⟩⟩
                refine ⟨F6, ρk, S3, ?_⟩
                have ρe1 : ∀ l : Nat, l ∉ vs1 → (ρk[l]?).join = (ρj[l]?).join := fun l hl => by rw [asg_ne ea1 fun z => hl (hs1 l z)]
                have hA6' : ∃ us, H6 A = some (.lst us) := by rw [hA6]; exact ⟨_, hHAj⟩
                have finj : ∀ {F7 H7 : Hp} {ρ7 : Ev}, StpE w.K F6 ρk σ3 H6 F7 ρ7 H7 → H7 A = some (.lst accV1) ∧ StpE w.K F4 (wipeE vs1 ρc) (L2.wipe σ2 vs1) (era A H4) F7 (wipeE vs1 ρ7) (era A H7) := fun {F7 H7 ρ7} p7 => by
                  have t := turn_step p6.st hwj c3 hs1 ρe1 mu3 p7
                  obtain ⟨g1, g2⟩ := StpE.era p6e.st hA6' t
                  exact ⟨by rw [g1, hA6, hHAj], (pj.trans Sw1 p6e).trans Sw1 g2⟩
                obtain ⟨ez1, ρz1, hy1, hy2⟩ := bind_some heqj
                obtain ⟨hb1, ρl, hc1, hy1⟩ := bind_some (show (cond1 ρk).bind _ = _ from hy1)
                rw [hc1]
                intro F7 H7 p7
                have hy1 : (match asB hb1 ρl with
                  | some true => (mEsc elt ρl).bind fun h ρ3 => match kept h with
                    | some e => (compRun vs1 tg1 cond1 elt (ds1.drop (j + 1)) (wipeE vs1 ρ3)).bind fun es ρ4 => .ok (e :: es) ρ4
                    | none => .bad
                  | some false => compRun vs1 tg1 cond1 elt (ds1.drop (j + 1)) (wipeE vs1 ρl)
                  | none => .bad : Res (List D)) = .ok ez1 ρz1 := hy1
                cases eb1 : asB hb1 ρl with
                | none => rw [eb1] at hy1; cases hy1
                | some b1 =>
                  rw [eb1] at hy1
                  refine ⟨b1, asB_some eb1, ?_⟩
                  obtain ⟨hA7, t7⟩ := finj p7
                  cases b1 with
                  | false =>
                    have hy1 : compRun vs1 tg1 cond1 elt (ds1.drop (j + 1)) (wipeE vs1 ρl) = .ok ez1 ρz1 := hy1
                    exact ⟨rfl, hltj, F7, wipeE vs1 ρl, acc1, accV1, t7, wipeE_idem, hA7, RpAll.mono (p6.le.trans p7.le) _ _ hrj, by rw [hy1]; exact hy2⟩
                  | true =>
                    refine ⟨F7, ρl, p7.st, ?_⟩
                    obtain ⟨kk, ρm, hm1, hy1⟩ := bind_some (show (mEsc elt ρl).bind _ = _ from hy1)
                    rw [hm1]
                    intro F8 H8 p8 v hv
                    cases ek : kept kk with
                    | none => rw [ek] at hy1; cases hy1
                    | some e =>
                      rw [ek] at hy1
                      obtain ⟨es2, ρn, hn1, hy1⟩ := bind_some hy1
                      cases hy1
                      rw [kept_some ek] at hv
                      have hv : Rp w.K F8 v e := hv
                      obtain ⟨hA8, t8⟩ := finj (p7.trans S3 p8)
                      have hlen : acc1.length + 1 ≤ es0.length := by
                        have hy2 : Res.ok (acc1 ++ (e :: es2)) ρz1 = .ok es0 ρd := hy2
                        cases hy2
                        simp
                      refine ⟨accV1, hA8, by rw [hrj.length, List.length_append, sizeLine_eq]; omega, rfl, hltj, F8, wipeE vs1 ρm, acc1 ++ [e], accV1 ++ [v], by rw [era_upd]; exact t8, wipeE_idem, upd_same, ?_, ?_⟩
                      · rw [← List.append_assoc]
                        exact (RpAll.mono (p6.le.trans (p7.le.trans p8.le)) _ _ hrj).append (.cons hv .nil)
                      · rw [hn1]
                        show Res.ok (acc1 ++ [e] ++ es2) ρz1 = _
                        rw [List.append_assoc]
                        exact hy2
            · have hj' : j = ds1.length := by omega
              subst hj'
              refine .inl ⟨hJ1.stop H5 sF4, ?_⟩
              rw [List.drop_length] at heqj
              have heqj : Res.ok (acc1 ++ []) ρj = .ok es0 ρd := heqj
              rw [List.append_nil] at heqj
              cases heqj
              exact ⟨rfl, hlt, Fj, wipeE vs (backE vs1 ρc ρd), acc ++ es0, accV1, fin0 (t4.trans S2e (back0 S4e pj)), wipeE_idem, hHAj, hrj, heq2⟩
  · have hi' : i = ds.length := by omega
    subst hi'
    refine .inl ⟨hJ.stop H' sF1, ?_⟩
    rw [List.drop_length] at heq
    have heq : Res.ok (acc ++ []) ρi = Res.ok xs0 ρ0 := heq
    rw [List.append_nil] at heq
    cases heq
    exact q Fi H' (back_step S1 hA pi hHA) (.ref A) ⟨A, accV, rfl, p.dom A (.none hA), hHA, (by
      cases e : Fi A with
      | none => rfl
      | some o => have z := pi.st.le A o e; rw [era_self] at z; cases z), hr⟩
variable {X : Cx}
theorem se_lc2 {elt tg iter tg1 iter1 : Expr} {ifs ifs1 : List Expr} {scope : Scope} {own : List (Str × Nat)} {pos : Pos} {mi mi1 : M (List D)} {t t1 : Tg} {mc mc1 me : M Hd} (hc : X.calm = true) (hN : X.N.Nodup) (hi : PI X tg iter (tI w mi)) (ok : BlkOk X.N X.env.scope scope own)
    (hs : ∀ i ∈ t.slots, i ∈ own.map (·.2)) (hv : ∀ i ∈ t1.slots, i ∈ own.map (·.2)) (hg : ∀ (s : Shared) (H : Hp) (C : Addr) (cl : List (Str × Addr)) (fp : List Addr), PG (X.blk s H scope (compEnvC scope cl C X.env) fp) tg (tG w.blk t))
    (ht : ∀ (s : Shared) (H : Hp) (C : Addr) (cl : List (Str × Addr)) (fp : List Addr), PTs (X.blk s H scope (compEnvC scope cl C X.env) fp) ifs (tT w.blk mc))
    (hi1 : ∀ (s : Shared) (H : Hp) (C : Addr) (cl : List (Str × Addr)) (fp : List Addr), PI (X.blk s H scope (compEnvC scope cl C X.env) fp) tg1 iter1 (tI w.blk mi1))
    (hg1 : ∀ (s : Shared) (H : Hp) (C : Addr) (cl : List (Str × Addr)) (fp : List Addr), PG (X.blk s H scope (compEnvC scope cl C X.env) fp) tg1 (tG w.blk t1))
    (ht1 : ∀ (s : Shared) (H : Hp) (C : Addr) (cl : List (Str × Addr)) (fp : List Addr), PTs (X.blk s H scope (compEnvC scope cl C X.env) fp) ifs1 (tT w.blk mc1))
    (he : ∀ (s : Shared) (H : Hp) (C : Addr) (cl : List (Str × Addr)) (fp : List Addr), PE (X.blk s H scope (compEnvC scope cl C X.env) fp) elt (tK w.blk me)) (hf : ∀ x, foldedSetIterable iter X.env x = pure x) (hf1 : ∀ env x, foldedSetIterable iter1 env x = pure x) :
    PE X (.ListComp elt [⟨tg, iter, ifs, 0⟩, ⟨tg1, iter1, ifs1, 0⟩] scope pos) (tK w (mComp2 (own.map (·.2)) t1.slots mi t mc mi1 t1 mc1 me)) :=
  PEimp (pe_lc2 hc hN hi ok hv hg ht hi1 hg1 ht1 (fun s H C cl fp => se_esc (he s H C cl fp)) hf hf1) fun _ _ _ h => comp2_in hs (fun _ h => h) hv h
theorem esr_v2 {m : M Hd} {vs vs1 : List Nat} {mi mi1 : M (List D)} {tg tg1 : Tg} {c c1 e : M Hd} (h : m = mComp2 vs vs1 mi tg c mi1 tg1 c1 e) : mEsr m = m := by
  subst h
  funext ρ
  unfold mEsr mComp2
  cases mi ρ with
  | bad => rfl
  | exc x ρ1 => rfl
  | ok ds ρ1 =>
    show Res.bind (if ds.length ≤ lim then _ else _) esr = if ds.length ≤ lim then _ else _
    split
    · cases noExc (compRun2 vs tg c (compIn vs1 mi1 tg1 c1 e) ds (wipeE vs ρ1)) with
      | ok xs ρ2 =>
        show Res.bind (if xs.length ≤ lim then _ else _) esr = if xs.length ≤ lim then _ else _
        split <;> rfl
      | exc x ρ2 => rfl
      | bad => rfl
    · rfl
theorem ss_setLc2 {i : Nat} {y : Str} {py : Pos} {elt tg iter tg1 iter1 : Expr} {ifs ifs1 : List Expr} {scope : Scope} {own : List (Str × Nat)} {pos spos : Pos} {mi mi1 : M (List D)} {t t1 : Tg} {mc mc1 me : M Hd} (hc : X.calm = true) (hN : X.N.Nodup) (hy : X.N[i]? = some y) (hyl : X.env.scope.names.lookup y = some .local)
    (hsw : swapsWith (.ListComp elt [⟨tg, iter, ifs, 0⟩, ⟨tg1, iter1, ifs1, 0⟩] scope pos) (some (.Name y py)) spos.line X.env = pure true) (hi : PI X tg iter (tI w mi)) (ok : BlkOk X.N X.env.scope scope own)
    (hs : ∀ i ∈ t.slots, i ∈ own.map (·.2)) (hv : ∀ i ∈ t1.slots, i ∈ own.map (·.2)) (hg : ∀ (s : Shared) (H : Hp) (C : Addr) (cl : List (Str × Addr)) (fp : List Addr), PG (X.blk s H scope (compEnvC scope cl C X.env) fp) tg (tG w.blk t))
    (ht : ∀ (s : Shared) (H : Hp) (C : Addr) (cl : List (Str × Addr)) (fp : List Addr), PTs (X.blk s H scope (compEnvC scope cl C X.env) fp) ifs (tT w.blk mc))
    (hi1 : ∀ (s : Shared) (H : Hp) (C : Addr) (cl : List (Str × Addr)) (fp : List Addr), PI (X.blk s H scope (compEnvC scope cl C X.env) fp) tg1 iter1 (tI w.blk mi1))
    (hg1 : ∀ (s : Shared) (H : Hp) (C : Addr) (cl : List (Str × Addr)) (fp : List Addr), PG (X.blk s H scope (compEnvC scope cl C X.env) fp) tg1 (tG w.blk t1))
    (ht1 : ∀ (s : Shared) (H : Hp) (C : Addr) (cl : List (Str × Addr)) (fp : List Addr), PTs (X.blk s H scope (compEnvC scope cl C X.env) fp) ifs1 (tT w.blk mc1))
    (he : ∀ (s : Shared) (H : Hp) (C : Addr) (cl : List (Str × Addr)) (fp : List Addr), PE (X.blk s H scope (compEnvC scope cl C X.env) fp) elt (tK w.blk me)) (hf : ∀ x, foldedSetIterable iter X.env x = pure x) (hf1 : ∀ env x, foldedSetIterable iter1 env x = pure x) :
    PS X (.Assign [.Name y py] (.ListComp elt [⟨tg, iter, ifs, 0⟩, ⟨tg1, iter1, ifs1, 0⟩] scope pos) spos) (tS w (mSet i (mComp2 (own.map (·.2)) t1.slots mi t mc mi1 t1 mc1 me))) := by
  refine PSimp (ps_setLc2 hc hN hy hyl hsw hi ok hv hg ht hi1 hg1 ht1 (fun s H C cl fp => se_esc (he s H C cl fp)) hf hf1) fun D σ H h => ?_
  have z := set_in h
  rw [esr_v2 rfl] at z
  exact comp2_in hs (fun _ h => h) hv z
end
end Pu
set_option Elab.async false
set_option linter.all false
set_option maxRecDepth 100000
set_option maxHeartbeats 2000000
/-! Pc2: the pure layer: xs.index(y), range with a step. -/
namespace Pu
open PySem L2 PyProof.Rows
def fIndex (d e : D) : Option RV := match d with
  | .list ds => if SeqAt.shaped (.list ds) = true ∧ SeqAt.shaped e = true then (ds.findIdx? fun z => PyData.eqv z e).map fun j => .fz (.int (j : Nat)) else none
  | _ => none
def lstE (h : Hd) (ρ : Ev) : Bool := match rd h ρ with
  | some (.list _) => true
  | _ => false
/-- mo.index(me), mo a list -/
def mIdx (mo me : M Hd) : M Hd := fun ρ => (mo ρ).bind fun h1 ρ1 => if lstE h1 ρ1 = true then (me ρ1).bind fun h2 ρ2 => prim2 fIndex h1 h2 ρ2 else .bad
section
variable {w : Wi} {X : Cx}
theorem idx_in {mo me : M Hd} {σ : L2.St} {H : Hp} {Q : VK} (hK : w.K = X.K) (h : tK w (mIdx mo me) σ H Q) : tBM X.K "list" (rIndexD X.K) (tK w mo) (tA w (mArgs [me])) σ H Q := by
  obtain ⟨F, ρ, S, h⟩ := h
  refine ⟨F, ρ, S, (h.bind S).mono fun h1 ρ1 F1 H1 ⟨p, q⟩ x hx => ?_⟩
  split at q
  case isFalse => exact q.elim
  rename_i hl
  unfold lstE at hl
  split at hl
  case h_2 => cases hl
  rename_i ds0 e0
  obtain ⟨a, vs, ex, hq, hr⟩ := (hx.pk p.st e0).lst p.st.le
  subst ex
  refine ⟨.inl ⟨rfl, vs, .inl hq⟩, F1, ρ1, p.st, ?_⟩
  have q2 := q.bind p.st
  show Wp w F1 ρ1 σ H1 (mArgs [me] ρ1) _
  unfold mArgs
  cases e1 : me ρ1 with
  | bad => rw [e1] at q2; exact q2
  | exc y ρ2 => rw [e1] at q2; exact q2
  | ok h2 ρ2 =>
    rw [e1] at q2
    intro F2 H2 p2 ys hys
    obtain ⟨_, q3⟩ := q2 F2 H2 p2
    match ys, hys with
    | [y], ⟨hy, _, _⟩ =>
      have hx2 := HdOk.carry S p p2 hx
      unfold prim2 at q3
      split at q3
      · rename_i d e ed ee
        split at q3
        · rename_i rv ef
          unfold fIndex at ef
          split at ef
          · rename_i ds
            rcases ite_some' ef with ⟨⟨z1, z2⟩, ef⟩ | ⟨_, ef⟩
            · obtain ⟨j, ej, er⟩ := Option.map_eq_some_iff.mp ef
              subst er
              have px := (hx2.pk p2.st ed).rpH p2.st.le
              have py := (hy.pk p2.st ee).rpH p2.st.le
              obtain ⟨hj, g1, g2⟩ := List.findIdx?_eq_some_iff_getElem.mp ej
              refine ⟨a, y, e, ds, j, ds[j], rfl, rfl, hK ▸ Rp.dp _ _ px, hK ▸ Rp.dp _ _ py, z1, z2, List.getElem?_eq_getElem hj, g1, fun m z' hm hz => ?_, ?_⟩
              · have hml : m < ds.length := by omega
                rw [List.getElem?_eq_getElem hml] at hz
                cases hz
                simpa using g2 m hm
              · exact q3.prim S (p.trans S p2) (.val p2.st.le (.int _))
            · cases ef
          · cases ef
        · exact q3.elim
      · exact q3.elim
theorem se_idx {o e : Expr} {apos cpos : Pos} {mo me : M Hd} (hK : w.K = X.K) (hu : X.A.units + 70 < cLine) (ho : PE X o (tK w mo)) (he : PE X e (tK w me)) (hs : starEach [e] X.env = (false, eval e X.env) :: starEach [] X.env) (hbase : attributeBase o "index" X.env (eval o X.env) = eval o X.env)
    (hline : (apos.endLine == cpos.line) = true) : PE X (.Call (.Attribute o "index" apos) [e] [] cpos) (tK w (mIdx mo me)) :=
  PEimp (pe_bm PySem.F.plainAttrs_list PySem.F.slot_list_index PySem.F.type_list_index (mt_indexD (by omega)) ho (sa_cons he sa_nil hs) hbase (by rw [hs]; rfl) hline hs (by rfl)) fun _ _ _ h => idx_in hK h
/-- range(a, b, c) -/
def rgStep (i c : Int) (n : Nat) : List D := (List.range n).map fun k => .int (i + (k : Nat) * c)
def fRange3 : List D → Option (List D)
  | [.int i, .int j, .int c] => if c ≠ 0 ∧ c.natAbs < 1073741824 ∧ Builtin.Range.small i j c = true ∧ Builtin.Range.rangeSize i j c = ((Builtin.Range.rangeSize i j c).toNat : Int) then some (rgStep i c (Builtin.Range.rangeSize i j c).toNat) else none
  | _ => none
theorem itd_step {K : PySem.W.Frag} {F : Hp} (i c : Int) (n : Nat) : ItD K F (Itc i c n) (rgStep i c n) where
  go := fun k H s h => by
    unfold rgStep at h
    rw [List.length_map, List.length_range] at h
    exact h
  stop := fun H s => by
    unfold rgStep
    rw [List.length_map, List.length_range]
    exact Nat.le_refl _
  yld := fun k d x H H' F' s1 s2 e ⟨e1, ex⟩ => by
    subst e1; subst ex
    unfold rgStep at e
    rw [List.getElem?_map] at e
    cases e2 : (List.range n)[k]? with
    | none => rw [e2] at e; cases e
    | some j =>
      rw [e2] at e
      obtain ⟨hj, ej⟩ := List.getElem?_eq_some_iff.mp e2
      rw [List.getElem_range] at ej
      subst ej
      cases e
      exact ⟨F', .val s2 (.int _)⟩
theorem RpAll.three {K : PySem.W.Frag} {F : Hp} {vs : List V} {a b c : D} (h : RpAll K F vs [a, b, c]) : ∃ x y z, vs = [x, y, z] ∧ Rp K F x a ∧ Rp K F y b ∧ Rp K F z c := by
  cases h with
  | cons h1 h =>
    cases h with
    | cons h2 h =>
      cases h with
      | cons h3 h =>
        cases h
        exact ⟨_, _, _, rfl, h1, h2, h3⟩
theorem si_range3 {tg a b c : Expr} {ms : List (M Hd)} {p pos : Pos} (hg : Gl X "range") (hm : X.mg "range" = none) (ha : PA X [a, b, c] (tA w (mArgs ms))) (hs : starEach [a, b, c] X.env = (false, eval a X.env) :: starEach [b, c] X.env) (hpl : (backTo pos (starEach [b, c] X.env)).any (·.1) = false) :
    PI X tg (.Call (.Name "range" p) [a, b, c] [] pos) (tI w (mWalk fRange3 ms)) := by
  refine PIimp (pi_range3 hg hm ha hs hpl) fun σ H R h => TA_mono (walk_in h) fun vs H1 ⟨F1, ds, l, s, r, ef, q⟩ => ?_
  unfold fRange3 at ef
  split at ef
  · rename_i i j c
    rcases ite_some' ef with ⟨⟨h1, h2, h3, h4⟩, ef⟩ | ⟨_, ef⟩
    · cases ef
      obtain ⟨x, y, z, rfl, rx, ry, rz⟩ := r.three
      cases rx; cases ry; cases rz
      exact ⟨i, j, c, _, rfl, ⟨h1, h2, h3, h4⟩, q _ (itd_step i c _)⟩
    · cases ef
  · cases ef
end
end Pu
set_option Elab.async false
set_option linter.all false
set_option maxRecDepth 100000
set_option maxHeartbeats 1000000
/-! Pc3: a comprehension over a list of one's own that stays one's own: the elements do not speak of it. -/
namespace Pu
open PySem L2 PyProof.Rows
theorem St.unset {K : PySem.W.Frag} {F H : Hp} {ρ : Ev} {σ : L2.St} (i : Nat) (S : St K F ρ σ H) : St K F (ρ.set i none) σ H := by
  have out : ∀ {j : Nat} {s : Sl}, (ρ.set i none)[j]? = some (some s) → j ≠ i ∧ ρ[j]? = some (some s) := fun {j s} h => by
    rcases set_get h with ⟨_, e⟩ | ⟨z, h⟩
    · cases e
    · exact ⟨z, h⟩
  exact ⟨by rw [List.length_set]; exact S.len, S.le, fun j s h => S.slot j s (out h).2, fun j k s t a hj hk => S.inj j k s t a (out hj).2 (out hk).2, S.tb, S.nt⟩
theorem Mu.unset {ρ : Ev} {σ : L2.St} {i : Nat} {b : Addr} (m : Mu (ρ.set i none) σ b) : Mu ρ σ b := by
  obtain ⟨j, s, hs, ms, e⟩ := m
  rcases set_get hs with ⟨_, z⟩ | ⟨_, hs⟩
  · cases z
  · exact ⟨j, s, hs, ms, e⟩
theorem unset_not {K : PySem.W.Frag} {F H : Hp} {ρ : Ev} {σ : L2.St} {i : Nat} {xs : List D} {a : Addr} (S : St K F ρ σ H) (hi : ρ[i]? = some (some (.own xs))) (ha : σ[i]? = some (some (.ref a))) : ¬ Mu (ρ.set i none) σ a := by
  rintro ⟨j, s, hs, ms, e⟩
  rcases set_get hs with ⟨_, z⟩ | ⟨n, hs⟩
  · cases z
  · exact n (S.inj j i s (.own xs) a hs hi ms rfl e ha)
/-- what was hidden comes back -/
theorem unset_step {K : PySem.W.Frag} {F F' H H' : Hp} {ρ ρ' : Ev} {σ : L2.St} {i : Nat} {xs : List D} (S : St K F ρ σ H) (hi : ρ[i]? = some (some (.own xs))) (p : StpE K F (ρ.set i none) σ H F' ρ' H') : StpE K F ρ σ H F' (ρ'.set i (some (.own xs))) H' := by
  obtain ⟨v, hv, a, us, rfl, h2, h3, h4⟩ := S.slot i _ hi
  have nm := unset_not S hi hv
  have g1 := p.keep a _ h2 nt_lst nm
  have g2 : F' a = none := by
    cases e : F' a with
    | none => rfl
    | some o =>
      rcases p.new a o e with z | z | z
      · rw [h3] at z; cases z
      · exact (z.lst h2).elim
      · exact absurd z nm
  refine ⟨⟨by rw [List.length_set]; exact p.st.len, p.st.le, fun j s hs => ?_, fun j k s t b hj hk ms mt ej ek => ?_, p.st.tb, p.st.nt⟩, p.le, fun b o h t n => p.keep b o h t fun m => n m.unset, p.dom, fun b o h => (p.new b o h).imp id (Or.imp id Mu.unset), fun j => ?_⟩
  · rcases set_get hs with ⟨z, e⟩ | ⟨z, hs⟩
    · subst z; cases e
      exact ⟨_, hv, a, us, rfl, g1, g2, RpAll.mono p.le _ _ h4⟩
    · exact p.st.slot j s hs
  · have other : ∀ {k : Nat} {t : Sl} {b : Addr}, ρ'[k]? = some (some t) → t.mu = true → σ[k]? = some (some (.ref b)) → b ≠ a := fun {k t b} hk mt ek z => by
      subst z
      exact nm (p.mu ⟨k, t, hk, mt, ek⟩)
    rcases set_get hj with ⟨zj, e⟩ | ⟨zj, hj'⟩
    · subst zj
      rw [hv] at ej
      cases ej
      rcases set_get hk with ⟨zk, e⟩ | ⟨zk, hk'⟩
      · exact zk.symm
      · exact (other hk' mt ek rfl).elim
    · rcases set_get hk with ⟨zk, e⟩ | ⟨zk, hk'⟩
      · subst zk
        rw [hv] at ek
        cases ek
        exact (other hj' ms ej rfl).elim
      · exact p.st.inj j k s t b hj' hk' ms mt ej ek
  · by_cases hj : j = i
    · subst hj
      have hl : j < ρ'.length := by
        rw [p.st.len, ← S.len]
        exact (List.getElem?_eq_some_iff.mp hi).1
      rw [hi, List.getElem?_set_self hl]
      exact .inl ⟨_, rfl⟩
    · have z := p.sl j
      rw [List.getElem?_set_ne fun z => hj z.symm] at z ⊢
      exact z
def tIO (w : Wi) (i : Nat) (xs : List D) : TI := fun σ H R => ∃ F ρ a vs, St w.K F ρ σ H ∧ ρ[i]? = some (some (.own xs)) ∧ σ[i]? = some (some (.ref a)) ∧ H a = some (.lst vs) ∧ F a = none ∧ RpAll w.K F vs xs ∧ R (Itl w.K a) H
def mCompO (i : Nat) (vs : List Nat) (tg : Tg) (cond elt : M Hd) : M Hd := fun ρ => match ρ[i]? with
  | some (some (.own xs)) => if xs.length ≤ lim then (noExc (compRun vs tg cond elt xs (wipeE vs (ρ.set i none)))).bind fun es ρ2 => .ok (.v (.fr es)) ((backE vs (ρ.set i none) ρ2).set i (some (.own xs))) else .bad
  | _ => mComp vs (mSeq (mSlot i)) tg cond elt ρ
section
variable {w : Wi} {X : Cx}
theorem pi_own {i : Nat} {x : Str} {pos : Pos} {tg : Expr} {xs : List D} (hK : w.K = X.K) (hN : X.N[i]? = some x) (hv : Vis X.env.scope x) (hd : (x == ("__debug__" : Str)) = false) (hcd : (x == ("__classdict__" : Str)) = false) : PI X tg (.Name x pos) (tIO w i xs) := by
  refine ⟨fun pins s σ H R I ⟨F, ρ, a, vs, S, h1, h2, h3, h4, h5, q⟩ => ?_⟩
  exact (pi_list (pe_var hN hv hd hcd)).run pins s σ H R I ⟨_, h2, a, rfl, ⟨vs, .inl (.inl h3)⟩, hK ▸ q⟩
theorem compO_in {i : Nat} {vs : List Nat} {tg : Tg} {cond elt : M Hd} {σ : L2.St} {H F : Hp} {ρ : Ev} {xs : List D} {Q : VK} (hs : ∀ i ∈ tg.slots, i ∈ vs) (S : St w.K F ρ σ H) (hi : ρ[i]? = some (some (.own xs)))
    (h : Wp w F ρ σ H (mCompO i vs tg cond elt ρ) fun h ρ' F' H' => ∀ v, HdOk w.K F' ρ' σ H H' v h → Q v H') : tLc (tIO w i xs) (tG w.blk tg) (tT w.blk cond) (tK w.blk (mEsc elt)) vs σ H Q := by
  obtain ⟨v, hv, a, us, rfl, ha, hFa, hr0⟩ := S.slot i _ hi
  refine ⟨F, ρ, a, us, S, hi, hv, ha, hFa, hr0, fun A hA => ?_⟩
  unfold mCompO at h
  rw [hi] at h
  dsimp only at h
  split at h
  case isFalse => exact h.elim
  rename_i hlim
  obtain ⟨xs0, ρ0, e0, q⟩ := noExc_ok h
  have S1 := S.unset i
  have Sw := S1.wipe vs
  have nm : ¬ Mu (wipeE vs (ρ.set i none)) (L2.wipe σ vs) a := fun m => unset_not S hi hv m.wipe
  have eE : era A (upd H A (.lst [])) = H := by rw [era_upd, era_none hA]
  let W : Nat → Nat → Hp → Prop := fun i' m H' => m = xs.length - i' ∧ i' ≤ xs.length ∧ ∃ Fi ρi acc accV, StpE w.K F (wipeE vs (ρ.set i none)) (L2.wipe σ vs) H Fi ρi (era A H') ∧ wipeE vs ρi = ρi ∧ H' A = some (.lst accV) ∧ RpAll w.K Fi accV acc ∧ acc.length ≤ i' ∧
    (compRun vs tg cond elt (xs.drop i') ρi).bind (fun es ρ' => .ok (acc ++ es) ρ') = .ok xs0 ρ0
  refine ⟨W, ⟨xs.length, by simp, Nat.zero_le _, F, wipeE vs (ρ.set i none), [], [], by rw [eE]; exact .refl Sw, wipeE_idem, upd_same, .nil, Nat.le_refl _, ?_⟩, ?_⟩
  · rw [List.drop_zero, e0]; rfl
  rintro k m H' ⟨rfl, hk, Fi, ρi, acc, accV, pi, hwi, hHA, hr, hacc, heq⟩
  have Si : St w.K Fi ρi (L2.wipe σ vs) H' := pi.st.uner
  have sF1 : Sub F H' := pi.le.trans Si.le
  have hHA' : ∃ us, H' A = some (.lst us) := ⟨_, hHA⟩
  have ha' : H' a = some (.lst us) := (era_some (pi.keep a _ ha nt_lst nm)).2
  by_cases hlt : k < xs.length
  · obtain ⟨d, hd⟩ := at_some hlt
    obtain ⟨x0, hx0, rp0⟩ := hr0.get hd
    refine .inr ⟨⟨us, x0, .inl (.inl ha'), hx0⟩, W (k + 1) (xs.length - (k + 1)), fun H'' h => ⟨_, by omega, h⟩, fun x H2 hy => ?_⟩
    obtain ⟨y1, y2⟩ := hy
    subst y1
    have hx : us[k]? = some x := y2 us (.inl (.inl ha'))
    rw [hx0] at hx
    cases hx
    have mk : Mk w.K Fi H2 x0 Fi H2 (.fz d) := .val Si.le (Rp.mono pi.le _ _ rp0)
    have p2 := Si.made mk
    obtain ⟨hA2, p2e⟩ := StpE.era pi.st hHA' p2
    have hdrop : xs.drop k = d :: xs.drop (k + 1) := by
      rw [List.drop_eq_getElem_cons hlt]
      rw [List.getElem?_eq_getElem hlt] at hd
      cases hd; rfl
    rw [hdrop] at heq
    unfold compRun at heq
    cases ea : asg tg d ρi with
    | none => rw [ea] at heq; cases heq
    | some ρa =>
      rw [ea] at heq
      refine ⟨Fi, ρi, d, ρa, p2.st, mk.rv, ea, fun σ2 S2 c2 mu2 => ⟨by rw [wipe_chg c2 hs, wipe_wipe], ?_⟩⟩
      refine ⟨Fi, ρa, S2, ?_⟩
      have ρe : ∀ j : Nat, j ∉ vs → (ρa[j]?).join = (ρi[j]?).join := fun j hj => by rw [asg_ne ea fun z => hj (hs j z)]
      have hA2' : ∃ us, H2 A = some (.lst us) := hHA'
      have fin : ∀ {F3 H3 : Hp} {ρ3 : Ev}, StpE w.K Fi ρa σ2 H2 F3 ρ3 H3 → H3 A = some (.lst accV) ∧ StpE w.K F (wipeE vs (ρ.set i none)) (L2.wipe σ vs) H F3 (wipeE vs ρ3) (era A H3) := fun {F3 H3 ρ3} p3 => by
        have t := turn_step p2.st hwi c2 hs ρe mu2 p3
        obtain ⟨g1, g2⟩ := StpE.era p2e.st hA2' t
        exact ⟨by rw [g1, hHA], (pi.trans Sw p2e).trans Sw g2⟩
      have heq : (((cond ρa).bind fun hb ρ2 => match asB hb ρ2 with
        | some true => (mEsc elt ρ2).bind fun h ρ3 => match kept h with
          | some e => (compRun vs tg cond elt (xs.drop (k + 1)) (wipeE vs ρ3)).bind fun es ρ4 => .ok (e :: es) ρ4
          | none => .bad
        | some false => compRun vs tg cond elt (xs.drop (k + 1)) (wipeE vs ρ2)
        | none => .bad).bind fun es ρ' => .ok (acc ++ es) ρ') = .ok xs0 ρ0 := heq
      cases ec : cond ρa with
      | bad => rw [ec] at heq; cases heq
      | exc x ρx => rw [ec] at heq; cases heq
      | ok hb ρb =>
        rw [ec] at heq
        intro F3 H3 p3
        have heq : ((match asB hb ρb with
          | some true => (mEsc elt ρb).bind fun h ρ3 => match kept h with
            | some e => (compRun vs tg cond elt (xs.drop (k + 1)) (wipeE vs ρ3)).bind fun es ρ4 => .ok (e :: es) ρ4
            | none => .bad
          | some false => compRun vs tg cond elt (xs.drop (k + 1)) (wipeE vs ρb)
          | none => .bad : Res (List D)).bind fun es ρ' => .ok (acc ++ es) ρ') = .ok xs0 ρ0 := heq
        cases eb : asB hb ρb with
        | none => rw [eb] at heq; cases heq
        | some b =>
          rw [eb] at heq
          refine ⟨b, asB_some eb, ?_⟩
          obtain ⟨hA3, t3⟩ := fin p3
          cases b with
          | false => exact ⟨rfl, hlt, F3, wipeE vs ρb, acc, accV, t3, wipeE_idem, hA3, RpAll.mono (p2.le.trans p3.le) _ _ hr, Nat.le_succ_of_le hacc, heq⟩
          | true =>
            refine ⟨F3, ρb, p3.st, ?_⟩
            have heq : ((mEsc elt ρb).bind fun h ρ3 => match kept h with
              | some e => (compRun vs tg cond elt (xs.drop (k + 1)) (wipeE vs ρ3)).bind fun es ρ4 => .ok (e :: es) ρ4
              | none => .bad).bind (fun es ρ' => .ok (acc ++ es) ρ') = .ok xs0 ρ0 := heq
            cases em : mEsc elt ρb with
            | bad => rw [em] at heq; cases heq
            | exc x ρx => rw [em] at heq; cases heq
            | ok kk ρk =>
              rw [em] at heq
              have heq : ((match kept kk with
                | some e => (compRun vs tg cond elt (xs.drop (k + 1)) (wipeE vs ρk)).bind fun es ρ4 => .ok (e :: es) ρ4
                | none => .bad : Res (List D)).bind fun es ρ' => .ok (acc ++ es) ρ') = .ok xs0 ρ0 := heq
              intro F4 H4 p4 v hv
              cases ek : kept kk with
              | none => rw [ek] at heq; cases heq
              | some e =>
                rw [ek] at heq
                rw [kept_some ek] at hv
                have hv : Rp w.K F4 v e := hv
                obtain ⟨hA4, t4⟩ := fin (p3.trans S2 p4)
                have heq : ((compRun vs tg cond elt (xs.drop (k + 1)) (wipeE vs ρk)).bind fun es ρ4 => .ok (e :: es) ρ4).bind (fun es ρ' => .ok (acc ++ es) ρ') = .ok xs0 ρ0 := heq
                rw [Res.assoc] at heq
                refine ⟨accV, hA4, by rw [hr.length, sizeLine_eq]; have z : xs.length ≤ 16777216 := hlim; omega, rfl, hlt, F4, wipeE vs ρk, acc ++ [e], accV ++ [v], by rw [era_upd]; exact t4, wipeE_idem, upd_same, (RpAll.mono (p2.le.trans (p3.le.trans p4.le)) _ _ hr).append (.cons hv .nil), by rw [List.length_append]; exact Nat.succ_le_succ hacc, ?_⟩
                rw [← heq]
                congr 1
                funext es ρ'
                show Res.ok (acc ++ [e] ++ es) ρ' = Res.ok (acc ++ (e :: es)) ρ'
                rw [List.append_assoc]; rfl
  · have hi' : k = xs.length := by omega
    subst hi'
    refine .inl ⟨⟨us, .inl (.inl ha'), by rw [hr0.length]; exact Nat.le_refl _⟩, ?_⟩
    rw [List.drop_length] at heq
    have heq : Res.ok (acc ++ []) ρi = Res.ok xs0 ρ0 := heq
    rw [List.append_nil] at heq
    cases heq
    exact q Fi H' (unset_step S hi (back_step S1 hA pi hHA)) (.ref A) ⟨A, accV, rfl, .none hA, hHA, (by
      cases e : Fi A with
      | none => rfl
      | some o => have z := pi.st.le A o e; rw [era_self] at z; cases z), hr⟩
theorem compO_else {j : Nat} {vs : List Nat} {t : Tg} {mc me : M Hd} {ρ : Ev} (ho : ¬ ∃ xs, ρ[j]? = some (some (.own xs))) : mCompO j vs t mc me ρ = mComp vs (mSeq (mSlot j)) t mc me ρ := by
  unfold mCompO
  split
  · rename_i xs e
    exact (ho ⟨xs, e⟩).elim
  · rfl
theorem esr_O {j : Nat} {vs : List Nat} {t : Tg} {mc me : M Hd} : mEsr (mCompO j vs t mc me) = mCompO j vs t mc me := by
  funext ρ
  by_cases ho : ∃ xs, ρ[j]? = some (some (.own xs))
  · obtain ⟨xs, ho⟩ := ho
    unfold mEsr mCompO
    rw [ho]
    dsimp only
    split
    · cases noExc (compRun vs t mc me xs (wipeE vs (ρ.set j none))) <;> rfl
    · rfl
  · show (mCompO j vs t mc me ρ).bind esr = _
    rw [compO_else ho]
    exact congrFun (esr_v (m := mComp vs (mSeq (mSlot j)) t mc me) rfl) ρ
theorem se_lcO {elt tg : Expr} {x : Str} {px : Pos} {j : Nat} {ifs : List Expr} {scope : Scope} {own : List (Str × Nat)} {pos : Pos} {t : Tg} {mc me : M Hd} (hK : w.K = X.K) (hx : X.N[j]? = some x) (hv : Vis X.env.scope x) (hd : (x == ("__debug__" : Str)) = false) (hcd : (x == ("__classdict__" : Str)) = false) (hc : X.calm = true) (hN : X.N.Nodup) (ok : BlkOk X.N X.env.scope scope own)
    (hs : ∀ i ∈ t.slots, i ∈ own.map (·.2)) (hg : ∀ (s : Shared) (H : Hp) (C : Addr) (cl : List (Str × Addr)) (fp : List Addr), PG (X.blk s H scope (compEnvC scope cl C X.env) fp) tg (tG w.blk t))
    (ht : ∀ (s : Shared) (H : Hp) (C : Addr) (cl : List (Str × Addr)) (fp : List Addr), PTs (X.blk s H scope (compEnvC scope cl C X.env) fp) ifs (tT w.blk mc))
    (he : ∀ (s : Shared) (H : Hp) (C : Addr) (cl : List (Str × Addr)) (fp : List Addr), PE (X.blk s H scope (compEnvC scope cl C X.env) fp) elt (tK w.blk me)) (hf : ∀ y, foldedSetIterable (.Name x px) X.env y = pure y) :
    PE X (.ListComp elt [⟨tg, .Name x px, ifs, 0⟩] scope pos) (tK w (mCompO j (own.map (·.2)) t mc me)) := by
  refine ⟨fun pins s σ H Q I ⟨F, ρ, S, h⟩ => ?_⟩
  by_cases ho : ∃ xs, ρ[j]? = some (some (.own xs))
  · obtain ⟨xs, ho⟩ := ho
    exact (pe_lc hc hN (pi_own hK hx hv hd hcd) ok hg ht (fun s H C cl fp => se_esc (he s H C cl fp)) hf).run pins s σ H Q I (compO_in hs S ho h)
  · rw [compO_else ho] at h
    exact (se_lc hc hN (si_seq hK (se_var hx hv hd hcd)) ok hs hg ht he hf).run pins s σ H Q I ⟨F, ρ, S, h⟩
theorem ss_setLcO {i : Nat} {y : Str} {py : Pos} {elt tg : Expr} {x : Str} {px : Pos} {j : Nat} {ifs : List Expr} {scope : Scope} {own : List (Str × Nat)} {pos spos : Pos} {t : Tg} {mc me : M Hd} (hK : w.K = X.K) (hx : X.N[j]? = some x) (hv : Vis X.env.scope x) (hd : (x == ("__debug__" : Str)) = false) (hcd : (x == ("__classdict__" : Str)) = false)
    (hc : X.calm = true) (hN : X.N.Nodup) (hy : X.N[i]? = some y) (hyl : X.env.scope.names.lookup y = some .local)
    (hsw : swapsWith (.ListComp elt [⟨tg, .Name x px, ifs, 0⟩] scope pos) (some (.Name y py)) spos.line X.env = pure true) (ok : BlkOk X.N X.env.scope scope own)
    (hs : ∀ i ∈ t.slots, i ∈ own.map (·.2)) (hg : ∀ (s : Shared) (H : Hp) (C : Addr) (cl : List (Str × Addr)) (fp : List Addr), PG (X.blk s H scope (compEnvC scope cl C X.env) fp) tg (tG w.blk t))
    (ht : ∀ (s : Shared) (H : Hp) (C : Addr) (cl : List (Str × Addr)) (fp : List Addr), PTs (X.blk s H scope (compEnvC scope cl C X.env) fp) ifs (tT w.blk mc))
    (he : ∀ (s : Shared) (H : Hp) (C : Addr) (cl : List (Str × Addr)) (fp : List Addr), PE (X.blk s H scope (compEnvC scope cl C X.env) fp) elt (tK w.blk me)) (hf : ∀ y, foldedSetIterable (.Name x px) X.env y = pure y) :
    PS X (.Assign [.Name y py] (.ListComp elt [⟨tg, .Name x px, ifs, 0⟩] scope pos) spos) (tS w (mSet i (mCompO j (own.map (·.2)) t mc me))) := by
  refine ⟨fun pins s σ H D I h => ?_⟩
  have z := set_in h
  rw [esr_O] at z
  obtain ⟨F, ρ, S, hh⟩ := z
  by_cases ho : ∃ xs, ρ[j]? = some (some (.own xs))
  · obtain ⟨xs, ho⟩ := ho
    exact (ps_setLc hc hN hy hyl hsw (pi_own hK hx hv hd hcd) ok hg ht (fun s H C cl fp => se_esc (he s H C cl fp)) hf).run pins s σ H D I (compO_in hs S ho hh)
  · rw [compO_else ho] at hh
    exact (ps_setLc hc hN hy hyl hsw (si_seq hK (se_var hx hv hd hcd)) ok hg ht (fun s H C cl fp => se_esc (he s H C cl fp)) hf).run pins s σ H D I (comp_in hs ⟨F, ρ, S, hh⟩)
end
end Pu
set_option Elab.async false
set_option linter.all false
set_option maxRecDepth 100000
set_option maxHeartbeats 1000000
/-! Pf1: local names that hold defs. -/
namespace Pu
open PySem L2 PyProof.Rows
def putO (i : Nat) (f : Str) (ρ : Ev) : Option Ev := match ρ[i]? with
  | some (some (.io _)) => none
  | some _ => some (ρ.set i (some (.obj (.str f))))
  | none => none
theorem putO_some {i : Nat} {f : Str} {ρ ρ' : Ev} (h : putO i f ρ = some ρ') : ∃ x, ρ[i]? = some x ∧ (∀ xs, x ≠ some (.io xs)) ∧ ρ' = ρ.set i (some (.obj (.str f))) := by
  unfold putO at h
  split at h
  · cases h
  · rename_i x n e
    cases h
    exact ⟨x, e, fun xs z => n xs (by rw [z]), rfl⟩
  · cases h
theorem St.putO {K : PySem.W.Frag} {F H : Hp} {ρ : Ev} {σ : L2.St} {i : Nat} {f : Str} {x : Option Sl} (S : St K F ρ σ H) (hi : ρ[i]? = some x) : St K F (ρ.set i (some (.obj (.str f)))) (σ.set i (some (.ref (He.ga K f)))) H := by
  have hl : i < σ.length := by rw [← S.len]; exact (List.getElem?_eq_some_iff.mp hi).1
  refine ⟨by rw [List.length_set, List.length_set]; exact S.len, S.le, fun j s hs => ?_, fun j k s t b hj hk ms mt ej ek => ?_, S.tb, S.nt⟩
  · rcases set_get hs with ⟨z, e⟩ | ⟨z, hs⟩
    · subst z; cases e
      exact ⟨.ref (He.ga K f), by rw [set_getV, if_pos rfl, if_pos hl], rfl⟩
    · obtain ⟨u, e, ok⟩ := S.slot j s hs
      exact ⟨u, by rw [set_getV, if_neg z]; exact e, ok⟩
  · rcases set_get hj with ⟨z, e⟩ | ⟨z, hj⟩
    · cases e; cases ms
    · rcases set_get hk with ⟨z2, e⟩ | ⟨z2, hk⟩
      · cases e; cases mt
      · rw [set_getV, if_neg z] at ej
        rw [set_getV, if_neg z2] at ek
        exact S.inj j k s t b hj hk ms mt ej ek
theorem Mu.putO {ρ : Ev} {σ : L2.St} {i : Nat} {f : Str} {v : V} {b : Addr} (m : Mu (ρ.set i (some (.obj (.str f)))) (σ.set i (some v)) b) : Mu ρ σ b := by
  obtain ⟨j, s, hs, ms, e⟩ := m
  rcases set_get hs with ⟨z, e'⟩ | ⟨z, hs⟩
  · cases e'; cases ms
  · rw [set_getV, if_neg z] at e
    exact ⟨j, s, hs, ms, e⟩
theorem putO_step {K : PySem.W.Frag} {F F1 H H1 : Hp} {ρ ρ1 ρ2 : Ev} {σ σ1 : L2.St} {i : Nat} {f : Str} (p : StpS K F ρ σ H F1 ρ1 σ1 H1) (h : putO i f ρ1 = some ρ2) : StpS K F ρ σ H F1 ρ2 (σ1.set i (some (.ref (He.ga K f)))) H1 := by
  obtain ⟨x, h1, h2, rfl⟩ := putO_some h
  refine ⟨p.st.putO h1, p.le, p.keep, p.dom, p.new, fun b z => p.mu b z.putO, fun j xs hj => ?_⟩
  obtain ⟨⟨ys, g1⟩, g2⟩ := p.io j xs hj
  have n : j ≠ i := fun z => by
    subst z
    rw [h1] at g1
    cases g1
    exact h2 _ rfl
  exact ⟨⟨ys, by rw [List.getElem?_set_ne fun z => n z.symm]; exact g1⟩, by rw [set_getV, if_neg n]; exact g2⟩
/-- names of defs -/
inductive FnNs (X : Cx) : List Expr → List Str → Prop where
  | nil : FnNs X [] []
  | cons {f : Str} {p : Pos} {es : List Expr} {fs : List Str} (hg : Gl X f) (hm : X.mg f = some (.ref (He.ga X.K f))) (hd : (f == ("__debug__" : Str)) = false) (t : FnNs X es fs) : FnNs X (.Name f p :: es) (f :: fs)
section
variable {w : Wi} {X : Cx}
def fnVs (K : PySem.W.Frag) (fs : List Str) : List V := fs.map fun f => .ref (He.ga K f)
theorem pa_fs : ∀ {es : List Expr} {fs : List Str}, FnNs X es fs → PA X es (fun _ H Q => Q (fnVs X.K fs) H)
  | [], _, h => by
    cases h
    exact pa_nil
  | _ :: es, _, h => by
    cases h with
    | cons hg hm hd t => exact pa_cons (pe_glob (v := .ref (He.ga X.K _)) hg hm rfl hd) (pa_fs t) rfl
/-- a tuple that is only walked joins what lies still -/
theorem St.tupd {K : PySem.W.Frag} {F H : Hp} {ρ : Ev} {σ : L2.St} (S : St K F ρ σ H) {a : Addr} {vs : List V} (hn : H a = none) : StpE K F ρ σ H (upd F a (.tup vs)) ρ (upd H a (.tup vs)) := by
  have hF : F a = none := none_sub S.le hn
  refine S.made (v := .non) (r := .fz .none) ⟨sub_upd hn, sub_upd hF, sub_upd2 S.le, fun b o e => ?_, .non⟩
  by_cases hb : b = a
  · subst hb; rw [upd_same] at e; cases e; exact .inr ⟨.none hn, nt_tup⟩
  · rw [upd_ne hb] at e; exact .inl e
def forRunF (i : Nat) (body : M Fl) : List Str → M Fl
  | [] => fun ρ => .ok .next ρ
  | f :: fs => fun ρ => match putO i f ρ with
    | none => .bad
    | some ρ1 => (body ρ1).bind (loopEnd (forRunF i body fs))
def mForF (i : Nat) (fs : List Str) (body : M Fl) : M Fl := fun ρ => forRunF i body fs ρ
theorem ss_forF {i : Nat} {y : Str} {py tp pos : Pos} {es : List Expr} {k : Nat} {fs : List Str} {body : List Stmt} {mb : M Fl} (hK : w.K = X.K) (hp : PassesOwn (model X.prog X.w) X.A X.env X.xe) (hc : X.calm = true) (hN : X.N.Nodup) (hi : X.N[i]? = some y) (hy : Loc X.env.scope y) (hf : X.fn y = true ∨ X.env.scope.names.lookup y = some .local)
    (hn : FnNs X es fs) (hl : fs.length ≤ 1000) (hb : PSs X body (tS w mb)) : PS X (.For (.Name y py) (.Tuple es k tp) body [] pos) (tS w (mForF i fs mb)) := by
  refine PSimp (ps_for hp hc (pi_tup (pe_tup (pa_fs hn))) (pg_name hN hi hy hf) hb fun _ => rfl) fun D σ H ⟨F, ρ, S, h⟩ => ?_
  have hlv : (fnVs X.K fs).length = fs.length := by unfold fnVs; rw [List.length_map]
  refine ⟨lim_le (by rw [hlv]; exact Nat.le_trans hl (by decide)), fun a ha => ?_⟩
  have p0 := S.tupd (vs := fnVs X.K fs) ha
  refine ⟨a, rfl, ⟨_, .inl (.inl upd_same)⟩, ?_⟩
  let F1 := upd F a (.tup (fnVs X.K fs))
  let H1 := upd H a (.tup (fnVs X.K fs))
  let W : Nat → Nat → L2.St → Hp → Prop := fun j m σ' H' => m = fs.length - j ∧ j ≤ fs.length ∧ ∃ F' ρ', StpS w.K F1 ρ σ H1 F' ρ' σ' H' ∧ WpS w F1 ρ σ H1 (forRunF i mb (fs.drop j) ρ') D
  have h1 : WpS w F1 ρ σ H1 (forRunF i mb fs ρ) D := WpS.later p0.toS h
  refine ⟨W, ⟨_, rfl, Nat.zero_le _, F1, ρ, .refl p0.st, h1⟩, ?_⟩
  rintro j m σi H' ⟨rfl, hj, Fi, ρi, pi, hq⟩
  have hA : H' a = some (.tup (fnVs X.K fs)) := pi.st.le a _ (pi.le a _ upd_same)
  by_cases hlt : j < fs.length
  · obtain ⟨f, hf'⟩ := at_some hlt
    have hv : (fnVs X.K fs)[j]? = some (.ref (He.ga X.K f)) := by
      unfold fnVs
      rw [List.getElem?_map, hf']; rfl
    refine .inr ⟨⟨_, _, .inl (.inl hA), hv⟩, W (j + 1) (fs.length - (j + 1)), fun σ'' H'' h => ⟨_, by omega, h⟩, fun x H2 hy2 => ?_⟩
    obtain ⟨y1, y2⟩ := hy2
    subst y1
    have hx := y2 _ (.inl (.inl hA))
    rw [hv] at hx
    cases hx
    have hdrop : fs.drop j = f :: fs.drop (j + 1) := by
      rw [List.drop_eq_getElem_cons hlt]
      rw [List.getElem?_eq_getElem hlt] at hf'
      cases hf'; rfl
    rw [hdrop] at hq
    unfold forRunF at hq
    cases ea : Pu.putO i f ρi with
    | none => rw [ea] at hq; exact hq.elim
    | some ρa =>
      rw [ea] at hq
      have p3 := putO_step pi ea
      rw [hK] at p3
      show tS w mb _ (σi.set i (some (.ref (He.ga X.K f)))) H2
      refine ⟨Fi, ρa, hK ▸ p3.st, ?_⟩
      exact WpS.loop (hK ▸ p3) hq fun σ' F' H' ρ' q' hq' => ⟨rfl, hlt, F', ρ', q', hq'⟩
  · have hj' : j = fs.length := by omega
    subst hj'
    refine .inl ⟨⟨_, .inl (.inl hA), by rw [hlv]; exact Nat.le_refl _⟩, ?_⟩
    rw [List.drop_length] at hq
    exact hq _ _ _ pi
/-! ### comprehensions -/
def compRunF (vs : List Nat) (i : Nat) (cond elt : M Hd) : List Str → M (List D)
  | [] => fun ρ => .ok [] ρ
  | f :: fs => fun ρ => match Pu.putO i f ρ with
    | none => .bad
    | some ρ1 => (cond ρ1).bind fun hb ρ2 => match asB hb ρ2 with
      | some true => (mEsc elt ρ2).bind fun h ρ3 => match kept h with
        | some e => (compRunF vs i cond elt fs (wipeE vs ρ3)).bind fun es ρ4 => .ok (e :: es) ρ4
        | none => .bad
      | some false => compRunF vs i cond elt fs (wipeE vs ρ2)
      | none => .bad
def mCompF (i : Nat) (vs : List Nat) (fs : List Str) (cond elt : M Hd) : M Hd := fun ρ => (noExc (compRunF vs i cond elt fs (wipeE vs ρ))).bind fun xs ρ2 => .ok (.v (.fr xs)) (backE vs ρ ρ2)
theorem compF_in {i : Nat} {vs : List Nat} {fs : List Str} {cond elt : M Hd} {σ : L2.St} {H : Hp} {Q : VK} (hK : w.K = X.K) (hl : fs.length ≤ 1000) (hs : i ∈ vs) (h : tK w (mCompF i vs fs cond elt) σ H Q) :
    tLc (iTup X.K (tTup fun _ H Q => Q (fnVs X.K fs) H)) (gName i) (tT w.blk cond) (tK w.blk (mEsc elt)) vs σ H Q := by
  obtain ⟨F, ρ, S, h⟩ := h
  have hlv : (fnVs X.K fs).length = fs.length := by unfold fnVs; rw [List.length_map]
  refine ⟨lim_le (by rw [hlv]; exact Nat.le_trans hl (by decide)), fun a ha => ?_⟩
  have p0 := S.tupd (vs := fnVs X.K fs) ha
  refine ⟨a, rfl, ⟨_, .inl (.inl upd_same)⟩, fun A hA => ?_⟩
  obtain ⟨xs0, ρ0, e0, q⟩ := noExc_ok h
  have S1 := p0.st
  have Sw := S1.wipe vs
  let F1 := upd F a (.tup (fnVs X.K fs))
  let H1 := upd H a (.tup (fnVs X.K fs))
  have eE : era A (upd H1 A (.lst [])) = H1 := by rw [era_upd, era_none hA]
  let W : Nat → Nat → Hp → Prop := fun i' m H' => m = fs.length - i' ∧ i' ≤ fs.length ∧ ∃ Fi ρi acc accV, StpE w.K F1 (wipeE vs ρ) (L2.wipe σ vs) H1 Fi ρi (era A H') ∧ wipeE vs ρi = ρi ∧ H' A = some (.lst accV) ∧ RpAll w.K Fi accV acc ∧ acc.length ≤ i' ∧
    (compRunF vs i cond elt (fs.drop i') ρi).bind (fun es ρ' => .ok (acc ++ es) ρ') = .ok xs0 ρ0
  refine ⟨W, ⟨fs.length, by simp, Nat.zero_le _, F1, wipeE vs ρ, [], [], by rw [eE]; exact .refl Sw, wipeE_idem, upd_same, .nil, Nat.le_refl _, ?_⟩, ?_⟩
  · rw [List.drop_zero, e0]; rfl
  rintro k m H' ⟨rfl, hk, Fi, ρi, acc, accV, pi, hwi, hHA, hr, hacc, heq⟩
  have Si : St w.K Fi ρi (L2.wipe σ vs) H' := pi.st.uner
  have hA0 : H' a = some (.tup (fnVs X.K fs)) := Si.le a _ (pi.le a _ upd_same)
  have hHA' : ∃ us, H' A = some (.lst us) := ⟨_, hHA⟩
  by_cases hlt : k < fs.length
  · obtain ⟨f, hf⟩ := at_some hlt
    have hv : (fnVs X.K fs)[k]? = some (.ref (He.ga X.K f)) := by
      unfold fnVs
      rw [List.getElem?_map, hf]; rfl
    refine .inr ⟨⟨_, _, .inl (.inl hA0), hv⟩, W (k + 1) (fs.length - (k + 1)), fun H'' h => ⟨_, by omega, h⟩, fun x H2 hy => ?_⟩
    obtain ⟨y1, y2⟩ := hy
    subst y1
    have hx := y2 _ (.inl (.inl hA0))
    rw [hv] at hx
    cases hx
    have hdrop : fs.drop k = f :: fs.drop (k + 1) := by
      rw [List.drop_eq_getElem_cons hlt]
      rw [List.getElem?_eq_getElem hlt] at hf
      cases hf; rfl
    rw [hdrop] at heq
    unfold compRunF at heq
    cases ea : Pu.putO i f ρi with
    | none => rw [ea] at heq; cases heq
    | some ρa =>
      rw [ea] at heq
      obtain ⟨x0, g1, g2, g3⟩ := putO_some ea
      have S2 : St w.K Fi ρa ((L2.wipe σ vs).set i (some (.ref (He.ga X.K f)))) H2 := by
        rw [g3, ← hK]
        exact Si.putO g1
      have c2 : Chg [i] (L2.wipe σ vs) ((L2.wipe σ vs).set i (some (.ref (He.ga X.K f)))) := ⟨by rw [List.length_set], fun j hj => by rw [set_getV, if_neg fun z => hj (by rw [z]; exact List.mem_cons_self)]⟩
      have hs' : ∀ j ∈ [i], j ∈ vs := fun j hj => by rw [List.mem_singleton.mp hj]; exact hs
      have mu2 : ∀ b, Mu ρa ((L2.wipe σ vs).set i (some (.ref (He.ga X.K f)))) b → Mu ρi (L2.wipe σ vs) b := fun b z => by
        rw [g3] at z
        exact z.putO
      show L2.wipe ((L2.wipe σ vs).set i (some (.ref (He.ga X.K f)))) vs = L2.wipe σ vs ∧ _
      refine ⟨by rw [wipe_chg c2 hs', wipe_wipe], ?_⟩
      refine ⟨Fi, ρa, S2, ?_⟩
      have ρe : ∀ j : Nat, j ∉ vs → (ρa[j]?).join = (ρi[j]?).join := fun j hj => by
        rw [g3, List.getElem?_set_ne fun z => hj (by rw [← z]; exact hs)]
      have fin : ∀ {F3 H3 : Hp} {ρ3 : Ev}, StpE w.K Fi ρa ((L2.wipe σ vs).set i (some (.ref (He.ga X.K f)))) H2 F3 ρ3 H3 → H3 A = some (.lst accV) ∧ StpE w.K F1 (wipeE vs ρ) (L2.wipe σ vs) H1 F3 (wipeE vs ρ3) (era A H3) := fun {F3 H3 ρ3} p3 => by
        have t := turn_step Si hwi c2 hs' ρe mu2 p3
        obtain ⟨g1, g2⟩ := StpE.era pi.st hHA' t
        exact ⟨by rw [g1, hHA], pi.trans Sw g2⟩
      have heq : (((cond ρa).bind fun hb ρ2 => match asB hb ρ2 with
        | some true => (mEsc elt ρ2).bind fun h ρ3 => match kept h with
          | some e => (compRunF vs i cond elt (fs.drop (k + 1)) (wipeE vs ρ3)).bind fun es ρ4 => .ok (e :: es) ρ4
          | none => .bad
        | some false => compRunF vs i cond elt (fs.drop (k + 1)) (wipeE vs ρ2)
        | none => .bad).bind fun es ρ' => .ok (acc ++ es) ρ') = .ok xs0 ρ0 := heq
      cases ec : cond ρa with
      | bad => rw [ec] at heq; cases heq
      | exc x ρx => rw [ec] at heq; cases heq
      | ok hb ρb =>
        rw [ec] at heq
        intro F3 H3 p3
        have heq : ((match asB hb ρb with
          | some true => (mEsc elt ρb).bind fun h ρ3 => match kept h with
            | some e => (compRunF vs i cond elt (fs.drop (k + 1)) (wipeE vs ρ3)).bind fun es ρ4 => .ok (e :: es) ρ4
            | none => .bad
          | some false => compRunF vs i cond elt (fs.drop (k + 1)) (wipeE vs ρb)
          | none => .bad : Res (List D)).bind fun es ρ' => .ok (acc ++ es) ρ') = .ok xs0 ρ0 := heq
        cases eb : asB hb ρb with
        | none => rw [eb] at heq; cases heq
        | some b =>
          rw [eb] at heq
          refine ⟨b, asB_some eb, ?_⟩
          obtain ⟨hA3, t3⟩ := fin p3
          cases b with
          | false => exact ⟨rfl, hlt, F3, wipeE vs ρb, acc, accV, t3, wipeE_idem, hA3, RpAll.mono p3.le _ _ hr, Nat.le_succ_of_le hacc, heq⟩
          | true =>
            refine ⟨F3, ρb, p3.st, ?_⟩
            have heq : ((mEsc elt ρb).bind fun h ρ3 => match kept h with
              | some e => (compRunF vs i cond elt (fs.drop (k + 1)) (wipeE vs ρ3)).bind fun es ρ4 => .ok (e :: es) ρ4
              | none => .bad).bind (fun es ρ' => .ok (acc ++ es) ρ') = .ok xs0 ρ0 := heq
            cases em : mEsc elt ρb with
            | bad => rw [em] at heq; cases heq
            | exc x ρx => rw [em] at heq; cases heq
            | ok kk ρk =>
              rw [em] at heq
              have heq : ((match kept kk with
                | some e => (compRunF vs i cond elt (fs.drop (k + 1)) (wipeE vs ρk)).bind fun es ρ4 => .ok (e :: es) ρ4
                | none => .bad : Res (List D)).bind fun es ρ' => .ok (acc ++ es) ρ') = .ok xs0 ρ0 := heq
              intro F4 H4 p4 v hv
              cases ek : kept kk with
              | none => rw [ek] at heq; cases heq
              | some e =>
                rw [ek] at heq
                rw [kept_some ek] at hv
                have hv : Rp w.K F4 v e := hv
                obtain ⟨hA4, t4⟩ := fin (p3.trans S2 p4)
                have heq : ((compRunF vs i cond elt (fs.drop (k + 1)) (wipeE vs ρk)).bind fun es ρ4 => .ok (e :: es) ρ4).bind (fun es ρ' => .ok (acc ++ es) ρ') = .ok xs0 ρ0 := heq
                rw [Res.assoc] at heq
                refine ⟨accV, hA4, by rw [hr.length, sizeLine_eq]; omega, rfl, hlt, F4, wipeE vs ρk, acc ++ [e], accV ++ [v], by rw [era_upd]; exact t4, wipeE_idem, upd_same, (RpAll.mono (p3.le.trans p4.le) _ _ hr).append (.cons hv .nil), by rw [List.length_append]; exact Nat.succ_le_succ hacc, ?_⟩
                rw [← heq]
                congr 1
                funext es ρ'
                show Res.ok (acc ++ [e] ++ es) ρ' = Res.ok (acc ++ (e :: es)) ρ'
                rw [List.append_assoc]; rfl
  · have hi' : k = fs.length := by omega
    subst hi'
    refine .inl ⟨⟨_, .inl (.inl hA0), by rw [hlv]; exact Nat.le_refl _⟩, ?_⟩
    rw [List.drop_length] at heq
    have heq : Res.ok (acc ++ []) ρi = Res.ok xs0 ρ0 := heq
    rw [List.append_nil] at heq
    cases heq
    have pb := back_step S1 hA pi hHA
    have pz := p0.trans S pb
    exact q Fi H' pz (.ref A) ⟨A, accV, rfl, p0.dom A (.none hA), hHA, (by
      cases e : Fi A with
      | none => rfl
      | some o => have z := pi.st.le A o e; rw [era_self] at z; cases z), hr⟩
theorem esr_F {j : Nat} {vs : List Nat} {fs : List Str} {mc me : M Hd} : mEsr (mCompF j vs fs mc me) = mCompF j vs fs mc me := by
  funext ρ
  unfold mEsr mCompF
  cases noExc (compRunF vs j mc me fs (wipeE vs ρ)) <;> rfl
theorem se_lcF {elt : Expr} {y : Str} {py tp pos : Pos} {k i : Nat} {es : List Expr} {fs : List Str} {ifs : List Expr} {scope : Scope} {own : List (Str × Nat)} {mc me : M Hd} (hK : w.K = X.K) (hc : X.calm = true) (hN : X.N.Nodup) (hn : FnNs X es fs) (hl : fs.length ≤ 1000) (ok : BlkOk X.N X.env.scope scope own)
    (hs : i ∈ own.map (·.2)) (hg : ∀ (s : Shared) (H : Hp) (C : Addr) (cl : List (Str × Addr)) (fp : List Addr), PG (X.blk s H scope (compEnvC scope cl C X.env) fp) (.Name y py) (gName i))
    (ht : ∀ (s : Shared) (H : Hp) (C : Addr) (cl : List (Str × Addr)) (fp : List Addr), PTs (X.blk s H scope (compEnvC scope cl C X.env) fp) ifs (tT w.blk mc))
    (he : ∀ (s : Shared) (H : Hp) (C : Addr) (cl : List (Str × Addr)) (fp : List Addr), PE (X.blk s H scope (compEnvC scope cl C X.env) fp) elt (tK w.blk me)) :
    PE X (.ListComp elt [⟨.Name y py, .Tuple es k tp, ifs, 0⟩] scope pos) (tK w (mCompF i (own.map (·.2)) fs mc me)) :=
  PEimp (pe_lc hc hN (pi_tup (pe_tup (pa_fs hn))) ok hg ht (fun s H C cl fp => se_esc (he s H C cl fp)) fun _ => rfl) fun _ _ _ h => compF_in hK hl hs h
theorem ss_setLcF {j : Nat} {z : Str} {pz : Pos} {elt : Expr} {y : Str} {py tp pos spos : Pos} {k i : Nat} {es : List Expr} {fs : List Str} {ifs : List Expr} {scope : Scope} {own : List (Str × Nat)} {mc me : M Hd} (hK : w.K = X.K) (hc : X.calm = true) (hN : X.N.Nodup) (hz : X.N[j]? = some z) (hzl : X.env.scope.names.lookup z = some .local)
    (hsw : swapsWith (.ListComp elt [⟨.Name y py, .Tuple es k tp, ifs, 0⟩] scope pos) (some (.Name z pz)) spos.line X.env = pure true) (hn : FnNs X es fs) (hl : fs.length ≤ 1000) (ok : BlkOk X.N X.env.scope scope own)
    (hs : i ∈ own.map (·.2)) (hg : ∀ (s : Shared) (H : Hp) (C : Addr) (cl : List (Str × Addr)) (fp : List Addr), PG (X.blk s H scope (compEnvC scope cl C X.env) fp) (.Name y py) (gName i))
    (ht : ∀ (s : Shared) (H : Hp) (C : Addr) (cl : List (Str × Addr)) (fp : List Addr), PTs (X.blk s H scope (compEnvC scope cl C X.env) fp) ifs (tT w.blk mc))
    (he : ∀ (s : Shared) (H : Hp) (C : Addr) (cl : List (Str × Addr)) (fp : List Addr), PE (X.blk s H scope (compEnvC scope cl C X.env) fp) elt (tK w.blk me)) :
    PS X (.Assign [.Name z pz] (.ListComp elt [⟨.Name y py, .Tuple es k tp, ifs, 0⟩] scope pos) spos) (tS w (mSet j (mCompF i (own.map (·.2)) fs mc me))) := by
  refine PSimp (ps_setLc hc hN hz hzl hsw (pi_tup (pe_tup (pa_fs hn))) ok hg ht (fun s H C cl fp => se_esc (he s H C cl fp)) fun _ => rfl) fun D σ H h => ?_
  have q := set_in h
  rw [esr_F] at q
  exact compF_in hK hl hs q
/-! ### calls -/
def mCallV (tab : Str → Option (Nat × PF)) (i : Nat) (ms : List (M Hd)) : M Hd := fun ρ => match (ρ[i]?).join with
  | some (.obj (.str f)) => (match tab f with
    | some q => mCall q.1 q.2 ms ρ
    | none => .bad)
  | _ => .bad
theorem se_callV {tab : Str → Option (Nat × PF)} {i k : Nat} {x : Str} {p pos : Pos} {e : Expr} {es : List Expr} {ms : List (M Hd)} (hK : w.K = X.K) (hr : Room k X.A) (hx : X.N[i]? = some x) (hv : Vis X.env.scope x) (hdb : (x == ("__debug__" : Str)) = false) (hcd : (x == ("__classdict__" : Str)) = false)
    (ht : ∀ f q, tab f = some q → ∃ fd ps, ps.length = q.1 ∧ FnOk X.prog X.w X.K X.mg X.base (L2N.CX X.prog X.w) k (He.ga X.K f) fd ps (spP X.K w.XR q.1 q.2) ∧ PySem.W.keepIn X.K (.ref (He.ga X.K f)) = true ∧ Binds X.K fd ps [])
    (tk : L2N.Takes X w.W) (ha : PA X (e :: es) (tA w (mArgs ms))) (he : starEach (e :: es) X.env = (false, eval e X.env) :: starEach es X.env) (hpl : (backTo pos (starEach es X.env)).any (·.1) = false) : PE X (.Call (.Name x p) (e :: es) [] pos) (tK w (mCallV tab i ms)) := by
  refine ⟨fun pins s σ H Q I ⟨F, ρ, S, h⟩ => ?_⟩
  unfold mCallV at h
  split at h
  · rename_i f ef
    split at h
    · rename_i q eq
      obtain ⟨fd, ps, hl, FO, hk, hb⟩ := ht f q eq
      obtain ⟨v, ev, ok⟩ := S.slot i _ (join_some.mp ef)
      have ok : v = .ref (He.ga w.K f) := ok
      rw [hK] at ok
      subst ok
      refine wpAny_Call_Name_kw (thn ((pe_var (pos := p) hx hv hdb hcd).run pins s σ H (fun v H1 => v = .ref (He.ga X.K f) ∧ H1 = H) I ⟨_, ev, rfl, rfl⟩) fun u s1 ⟨v, H1, I1, r1, q1⟩ => ?_)
      obtain ⟨rfl, rfl⟩ := q1
      cases r1
      have z := call_in (w := w) ⟨F, ρ, S, h⟩
      rw [hK] at z
      refine PySem.W.callWith_K (h₀ := X.base) I.ok.mod.kin hk (thn (ha.run pos pins s1 σ _ _ I1 z) fun us s2 ⟨vs, H2, I2, r, q⟩ => ⟨I2.kIn, ?_⟩) he hpl
      exact run_fnS FO hr hb (L2N.passAt tk σ) I2 r q
    · exact h.elim
  · exact h.elim
end
end Pu
set_option Elab.async false
set_option linter.all false
set_option maxRecDepth 100000
set_option maxHeartbeats 2000000
/-! Ph1: lists and tuples walked while an exception is handled. -/
namespace Pu
open PySem PySem.Spec PyProof PyProof.Rows L2 HotX L2H
section
variable {prog : Program} {w : World} {A : Around} {E : Value → Shared → Prop} {s : Shared}
theorem list_end_hot {it l x1 : Addr} {i : Nat} {items : Array Value} {Q : Option Value → Shared → Prop} (hot : HotAt A x1 s.heap) (hit : s.heap.IsListIter it l i) (hl : s.heap.IsList l items) (hx : items[i]? = none) (ne : x1 ≠ it)
    (hQ : ∀ h', Heap.ExtBut it s.heap h' → Q none { s with heap := h' }) : wpAny (model prog w) A (pyNext (.ref it)) Q E s := by
  obtain ⟨hh, o1, vs1, h1, d1, c1⟩ := hot
  obtain ⟨o, ho, hc, hd⟩ := id hit
  obtain ⟨ol, hol, _, nl, hdl⟩ := hl
  unfold pyNext
  refine wpAny_bind (wpAny_attempt (wpAny_callSpecial?_slot (name := Str.ofString "__next__") hit.typeIs slot_listiter_next
    (wpAny_call_entry slot_listiter_next hit.typeIs entry_listiter_next ?_ (args_listiter_next _))))
  show wpAny _ _ (field (.ref it) 0 >>= _) _ _ s
  refine wpAny_bind (wpAny_field ho hd (x := .ref l) rfl ?_)
  show wpAny _ _ (if (Value.ref l == Value.none) = true then _ else _) _ _ s
  rw [if_neg (show ¬ ((Value.ref l == Value.none) = true) from Bool.false_ne_true)]
  show wpAny _ _ (field (.ref it) 1 >>= _) _ _ s
  refine wpAny_bind (wpAny_field ho hd (x := .int i 0) rfl ?_)
  show wpAny _ _ (seqItems? (.ref l) >>= _) _ _ s
  refine wpAny_bind (wpAny_seqItems hol hdl ?_)
  simp only [Int.toNat_natCast, hx]
  refine wpAny_bind (wpAny_rule (wpAny_bind (wpAny_setField ho hd (by simp) ?_)))
  show wpAny _ _ (newExc (.type "StopIteration") [] >>= _) _ _ _
  refine wpAny_bind ?_
  simp only [newExc, newTuple]
  refine wpAny_bind (wpAny_newObj_type ?_ (by size_fits))
  refine wpAny_bind (m := firstArgMember _ _) (wpAny_of_eq (a := Value.none) (by first | rfl | (simp only [firstArgMember]; rfl)) ?_)
  refine wpAny_newObj_type ?_ (by size_fits)
  refine raiseNew_hot ⟨hh, o1, vs1, Heap.get?_push_of_some _ (Heap.get?_push_of_some _ ((Heap.get?_update_other _ _ (Ne.symm ne)).trans h1)), d1, c1⟩ (Nat.ne_of_lt (Heap.lt_size (Heap.get?_push_of_some _ ((Heap.get?_update_other _ _ (Ne.symm ne)).trans h1)))) (Heap.get?_push_size _ rfl) rfl (by simp; omega) ?_
  refine wpAny_bind (wpAny_isInstance (T := "StopIteration") (b := true) ⟨_, Heap.get?_update_self _ (Heap.get?_push_size _ rfl) rfl, rfl⟩ isSubtype_stop ?_)
  refine wpAny_pure (hQ _ fun b o hb e => ?_)
  have e1 := (Heap.get?_update_other (f := Obj.mapFields fun x => x.setIfInBounds 0 Value.none) (h := s.heap) (a := it) (Ne.symm hb) |>.trans e)
  rw [Heap.get?_update_other _ _ (Nat.ne_of_gt (Heap.lt_size (Heap.get?_push_of_some _ e1)))]
  exact Heap.get?_push_of_some _ (Heap.get?_push_of_some _ e1)
theorem tuple_end_hot {it tp x1 : Addr} {i : Nat} {items : Array Value} {Q : Option Value → Shared → Prop} (hot : HotAt A x1 s.heap) (hit : s.heap.IsTupleIter it tp i) (hl : s.heap.IsTuple tp items) (hx : items[i]? = none) (ne : x1 ≠ it)
    (hQ : ∀ h', Heap.ExtBut it s.heap h' → Q none { s with heap := h' }) : wpAny (model prog w) A (pyNext (.ref it)) Q E s := by
  obtain ⟨hh, o1, vs1, h1, d1, c1⟩ := hot
  obtain ⟨o, ho, hc, hd⟩ := id hit
  obtain ⟨ol, hol, _, nl, hdl⟩ := hl
  unfold pyNext
  refine wpAny_bind (wpAny_attempt (wpAny_callSpecial?_slot (name := Str.ofString "__next__") hit.typeIs F.slot_tuple_iterator_next
    (wpAny_call_entry F.slot_tuple_iterator_next hit.typeIs F.entry_tuple_iterator_next ?_ (F.args_tuple_iterator_next_1 _))))
  show wpAny _ _ (field (.ref it) 0 >>= _) _ _ s
  refine wpAny_bind (wpAny_field ho hd (x := .ref tp) rfl ?_)
  show wpAny _ _ (if (Value.ref tp == Value.none) = true then _ else _) _ _ s
  rw [if_neg (show ¬ ((Value.ref tp == Value.none) = true) from Bool.false_ne_true)]
  show wpAny _ _ (field (.ref it) 1 >>= _) _ _ s
  refine wpAny_bind (wpAny_field ho hd (x := .int i 0) rfl ?_)
  show wpAny _ _ (seqItems? (.ref tp) >>= _) _ _ s
  refine wpAny_bind (wpAny_seqItems hol hdl ?_)
  simp only [Int.toNat_natCast, hx]
  refine wpAny_bind (wpAny_rule (wpAny_bind (wpAny_setField ho hd (by simp) ?_)))
  show wpAny _ _ (newExc (.type "StopIteration") [] >>= _) _ _ _
  refine wpAny_bind ?_
  simp only [newExc, newTuple]
  refine wpAny_bind (wpAny_newObj_type ?_ (by size_fits))
  refine wpAny_bind (m := firstArgMember _ _) (wpAny_of_eq (a := Value.none) (by first | rfl | (simp only [firstArgMember]; rfl)) ?_)
  refine wpAny_newObj_type ?_ (by size_fits)
  refine raiseNew_hot ⟨hh, o1, vs1, Heap.get?_push_of_some _ (Heap.get?_push_of_some _ ((Heap.get?_update_other _ _ (Ne.symm ne)).trans h1)), d1, c1⟩ (Nat.ne_of_lt (Heap.lt_size (Heap.get?_push_of_some _ ((Heap.get?_update_other _ _ (Ne.symm ne)).trans h1)))) (Heap.get?_push_size _ rfl) rfl (by simp; omega) ?_
  refine wpAny_bind (wpAny_isInstance (T := "StopIteration") (b := true) ⟨_, Heap.get?_update_self _ (Heap.get?_push_size _ rfl) rfl, rfl⟩ isSubtype_stop ?_)
  refine wpAny_pure (hQ _ fun b o hb e => ?_)
  have e1 := (Heap.get?_update_other (f := Obj.mapFields fun x => x.setIfInBounds 0 Value.none) (h := s.heap) (a := it) (Ne.symm hb) |>.trans e)
  rw [Heap.get?_update_other _ _ (Nat.ne_of_gt (Heap.lt_size (Heap.get?_push_of_some _ e1)))]
  exact Heap.get?_push_of_some _ (Heap.get?_push_of_some _ e1)
theorem unpack_tuple_hot {tp x1 : Addr} {items : Array Value} {Q : List Value → Shared → Prop} (hot : HotAt A x1 s.heap) (ht : s.heap.IsTuple tp items)
    (hQ : ∀ h', Heap.ExtBut s.heap.objs.size s.heap h' → Q items.toList { s with heap := h' }) : wpAny (model prog w) A (unpackItems (.ref tp) items.size none) Q E s := by
  have below : tp ≠ s.heap.objs.size := by obtain ⟨o, ho, _⟩ := ht; exact Nat.ne_of_lt (Heap.lt_size ho)
  have ne1 : x1 ≠ s.heap.objs.size := by obtain ⟨_, o1, _, h1, _⟩ := hot; exact Nat.ne_of_lt (Heap.lt_size h1)
  unfold unpackItems
  refine wpAny_bind ?_
  · unfold notIterableAtAll
    refine wpAny_bind (wpAny_specialOf ht.typeIs F.slot_tuple_iter.lookup ?_)
    refine wpAny_pure ?_
    simp only [Bool.false_eq_true, if_false]
    refine wpAny_bind (wpAny_holding (wpAny_pyIter_tuple ht ?_))
    refine wpAny_bind (wpAny_holding (wpAny_draw_tuple below items.size 0 _ _ ⟨_, Heap.get?_push_size _ rfl, rfl, rfl⟩ (ht.push _) (by omega) fun h1 it1 sb => ?_))
    rw [show List.take items.size (List.drop 0 items.toList) = items.toList by rw [List.drop_zero]; exact List.take_of_length_le (by simp), if_neg (by simp)]
    have t1 : h1.IsTuple tp items := (ht.push _).extBut sb.extBut below
    have hot1 : HotAt A x1 h1 := by
      obtain ⟨hh, o1, vs1, g1, d1, c1⟩ := hot
      exact ⟨hh, o1, vs1, sb.extBut x1 o1 ne1 (Heap.get?_push_of_some _ g1), d1, c1⟩
    refine wpAny_bind (wpAny_holding (tuple_end_hot hot1 it1 t1 (by simp) ne1 fun h2 e2 => ?_))
    simp only [Option.isSome_none, Bool.false_eq_true, if_false]
    exact wpAny_pure (hQ h2 fun b o hb e => e2 b o hb (sb.extBut b o hb (Heap.get?_push_of_some _ e)))
end
end Pu
set_option Elab.async false
set_option linter.all false
set_option maxRecDepth 100000
set_option maxHeartbeats 2000000
/-! Ph2: comprehensions within an except suite. -/
namespace Pu
open PySem PySem.Spec PyProof PyProof.Rows L2 HotX L2H
section
variable {X : Cx} {pins : List (Addr × Obj)} {σ : L2.St} {H : Hp} {s : Shared}
/-- a list walked there -/
theorem turn_listH {P : Program} {w : World} {K : PySem.W.Frag} {tg : Expr} (a it : Addr) : TurnH P w K tg (Itl K a) [it] it (fun i h => h.IsListIter it a i) where
  mem := by simp
  obj := fun i h st b hb => by
    have e : b = it := by simpa using hb
    subst e
    obtain ⟨o, e, c, d⟩ := st
    exact ⟨o, e, fun v z => by rw [d] at z; cases z⟩
  keep := fun i h h' st k => st.at fun o e => k it (by simp) o e
  item := by
    intro X hP hw hK hc i pins s σ H E I hf st hg
    subst hP hw hK
    obtain ⟨xs, x, hq, hx⟩ := hg
    obtain ⟨its, rv, p, hz⟩ := I.list hq
    obtain ⟨u, hu, ru⟩ := rv.get hx
    obtain ⟨f0, f1, f2, f3, f4, f5⟩ := hf it (by simp)
    refine wpAny_pyNext_list_item st p.isList (x := u) (by simpa using hu) fun h' st' sb => ?_
    have I1 : Inv X pins σ H { s with heap := h' } := I.turned (t' := s.toks) (fun b o hb e => (sb.2 b hb).trans e) f0 f1 f3 f4 f5
    obtain ⟨o, e, c, d⟩ := id st'
    exact ⟨u, rfl, go_of (s := { s with heap := h' }) e c d (by decide) ⟨x, H, I1, ru, ⟨rfl, fun ys hy => by rw [I.list_inj hy hq]; exact hx⟩, st', fun b hb => (hf b hb).1⟩⟩
  done := by
    intro X hP hw hK hc i pins s σ H E I hf st hg
    subst hP hw hK
    obtain ⟨xs, hq, hx⟩ := hg
    obtain ⟨its, rv, p, hz⟩ := I.list hq
    obtain ⟨f0, f1, f2, f3, f4, f5⟩ := hf it (by simp)
    obtain ⟨q, hot, hm⟩ := hc
    have P1 := I.pin q (List.mem_append_left _ hm)
    have hl := rv.length
    obtain ⟨hh, vs, e1, c1⟩ := hot
    exact list_end_hot ⟨hh, q.2, vs, P1.1, e1, c1⟩ st p.isList (by simp; omega) (f5 q (List.mem_append_left _ hm)) fun h' eb => ⟨rfl, I.turned (t' := s.toks) (fun b o hb e => eb b o hb e) f0 f1 f3 f4 f5⟩
  self := fun _ _ _ _ _ st h => wpAny_pyIter_listiter st h
theorem pi_listH {tg l : Expr} {tl : TE} (hl : PE X l tl) : PIH X tg l (iList X.K tl) := by
  refine ⟨fun pins s σ H R I h => ?_⟩
  refine thn (hl.run pins s σ H _ I h) fun v s1 ⟨x, H1, I1, r1, a, e, ⟨xs, hq⟩, q⟩ => ?_
  subst e
  cases r1
  obtain ⟨its, rv, p, hz⟩ := I1.list hq
  refine wpAny_pyIter_list p.isList ⟨s1.heap.objs.size, [s1.heap.objs.size], _, _, H1, rfl, I1.kept (t' := s1.toks) fun b o e => Heap.get?_push_of_some _ e, turn_listH a _, ⟨_, Heap.get?_push_size _ rfl, rfl, rfl⟩, fun b hb => ?_, q⟩
  have e : b = s1.heap.objs.size := by simpa using hb
  subst e
  exact I1.fpOk (Nat.le_refl _) (I1.hok.fresh (Nat.le_refl _))
/-- (a, b, ..) = a tuple, there -/
theorem pg_tupH {es : List Expr} {k : Nat} {t : TGs} {n : Nat} {pos : Pos} (hc : HotC X) (h : PGs X es t)
    (hn : (assignEach es X.env).length = n := by rfl) (hst : (assignEach es X.env).findIdx? (·.1) = none := by rfl) : PG X (.Tuple es k pos) (gTup X.K n t) := by
  refine ⟨fun pins s σ H v u Q I r hw => ?_⟩
  obtain ⟨a, xs, e1, hq, hl, hw⟩ := hw
  subst e1
  cases r
  obtain ⟨its, rv, ht, hz⟩ := I.tuple hq
  obtain ⟨x1, hot⟩ := hc.at I
  have len : its.toArray.size = (assignEach es X.env).length := by simp [hn, ← hl, rv.length]
  rw [assign_Tuple]
  unfold unpack
  rw [hst, ← len]
  refine wpAny_bind (wpAny_standAt (wpAny_bind (wpAny_holding (unpack_tuple_hot hot (show s.heap.IsTuple a its.toArray from ht) fun h' hx => ?_))))
  have I1 : Inv X pins σ H { s with heap := h' } := I.kept (t' := s.toks) fun b o e => hx b o (Nat.ne_of_lt (Heap.lt_size e)) e
  exact h.run pins _ σ H xs _ Q I1 (by simpa using rv) hw
/-- a comprehension's block there: its pins are the handled exception alone -/
abbrev blkH (X : Cx) (s : Shared) (H : Hp) (scope : Scope) (ce : Env) (fp : List Addr) (p : Addr × Obj) : Cx := (X.blk s H scope ce fp).tr [p] fun _ _ => False
abbrev blkE (X : Cx) (s : Shared) (scope : Scope) : Env := compEnvC scope (cellsFrom (s.heap.objs.size + 1) scope.names (cloFrom X.env.cells scope.names [])) s.heap.objs.size X.env
abbrev blkS (s : Shared) (scope : Scope) : Shared := { s with heap := pushCells (s.heap.push { cls := .type "dict", data := .dict #[] }) scope.names }
theorem blk_in {scope : Scope} {own : List (Str × Nat)} {fp : List Addr} {p : Addr × Obj} (I : Inv X pins σ H s) (ok : BlkOk X.N X.env.scope scope own) (hN : X.N.Nodup) (hp : p ∈ X.pn) (f : ∀ b ∈ fp, FpOk X pins H b ∧ b < s.heap.objs.size) :
    Inv (blkH X s H scope (blkE X s scope) fp p) [] (wipe σ (own.map (·.2))) H (blkS s scope) := by
  have J := block_start I ok hN f
  have P1 := I.pin p (List.mem_append_left _ hp)
  have K := J.pins_of (pins' := [p]) fun q hq => by
    have e : q = p := by simpa using hq
    subst e
    exact ⟨pushCells_keeps _ _ _ _ (Heap.get?_push_of_some _ P1.1), P1.2.1, Nat.ne_of_lt (Heap.lt_size P1.1), fun hm => (List.mem_cons.mp (I.stkSub q.1 hm)).elim P1.2.2.1 P1.2.2.2.1, P1.2.2.2.2⟩
  exact K.toTry _
theorem blk_out {scope : Scope} {ce : Env} {fp : List Addr} {p : Addr × Obj} {σ' : L2.St} {H' : Hp} {s' : Shared} (I : Inv X pins σ H s) (f : ∀ b ∈ fp, FpOk X pins H b) (J : Inv (blkH X s H scope ce fp p) [] σ' H' s') : Inv X pins σ H' s' :=
  I.call' (ch := fp) J.os J.base J.hok J.bare fun b hb => have z := f b hb; ⟨z.2.2.2.1, z.2.1, z.2.2.2.2.1, z.2.2.2.2.2⟩
theorem blk_fp {scope : Scope} {ce : Env} {fp : List Addr} {p : Addr × Obj} {σ' : L2.St} {H0 H' : Hp} {s' : Shared} (hp : p ∈ X.pn) (f : ∀ b ∈ fp, FpOk X pins H0 b) (J : Inv (blkH X s H scope ce fp p) [] σ' H' s') (n : ∀ b ∈ fp, H' b = none) :
    ∀ b ∈ fp, FpOk (blkH X s H scope ce fp p) [] H' b := fun b hb => by
  refine ⟨n b hb, (J.ok.exf b hb).1, J.ok.exfs b hb, .inl hb, fun x c e => (J.ok.exf b hb).2 x c e, fun q hq => ?_⟩
  have e : q = p := by simpa using (show q ∈ [p] ++ ([] : List (Addr × Obj)) from hq)
  subst e
  exact (f b hb).2.2.2.2.2 q (List.mem_append_left _ hp)
/-- one turn -/
theorem blk_turn {scope : Scope} {ce : Env} {fp : List Addr} {p : Addr × Obj} {elt tg : Expr} {ifs : List Expr} {g : TG} {tt : TT} {te : TE} {vs : List Nat} {J : It} {it D : Addr} {tn : Nat → Heap → Prop} {i : Nat} {H0 H5 : Hp} {s5 : Shared} {Nx : Hp → Prop} {G : Shared → Prop} {R : Value → Shared → Prop}
    (hot : Hot1 X.A p) (hp : p ∈ X.pn) (f : ∀ b ∈ fp, FpOk X pins H0 b) (T : TurnH X.prog X.w X.K tg J fp it tn) (pg : PG (blkH X s H scope ce fp p) tg g) (pt : PTs (blkH X s H scope ce fp p) ifs tt) (pe : PE (blkH X s H scope ce fp p) elt te)
    (I5 : Inv (blkH X s H scope ce fp p) [] (wipe σ vs) H5 s5) (st5 : tn i s5.heap) (n5 : ∀ b ∈ fp, H5 b = none) (go : J.go i H5)
    (step : ∀ x H', J.yld i H5 x H' → g x (wipe σ vs) H' fun σ2 H2 => wipe σ2 vs = wipe σ vs ∧ tt σ2 H2 fun b H3 => if b = true then te σ2 H3 fun y H4 => ∃ acc, H4 D = some (.lst acc) ∧ acc.length < sizeLine ∧ Nx (upd H4 D (.lst (acc ++ [y]))) else Nx H3)
    (fin : ∀ s' H', Inv (blkH X s H scope ce fp p) [] (wipe σ vs) H' s' → tn (i + 1) s'.heap → (∀ b ∈ fp, H' b = none) → Nx H' → G s') :
    wpAny (model X.prog X.w) X.A (pyNext (.ref it)) (fun r s₁ => ∃ u, r = some u ∧
      wpAny (model X.prog X.w) X.A (letOwnedTupleGo tg (.ref it) u) (fun _ s₁' => wpAny (model X.prog X.w) X.A (assign tg ce u) (fun _ s₂ =>
        wpAny (model X.prog X.w) X.A (forIn ifs true fun c r => if r = true then do let ok ← isTrue c ce (eval c ce); pure (ForInStep.yield ok) else pure (ForInStep.yield r)) (fun ok s₃ =>
          if ok = true then wpAny (model X.prog X.w) X.A (eval elt ce) (fun x s₄ => wpAny (model X.prog X.w) X.A (call (.builtin "list.append") [.ref D, x]) (fun _ s₅ => G s₅) R s₄) R s₃ else G s₃) R s₂) R s₁') R s₁) R s5 := by
  have hc : HotC (blkH X s H scope ce fp p) := ⟨p, hot, by simp⟩
  refine thnF (T.item (blkH X s H scope ce fp p) rfl rfl rfl hc i [] s5 _ H5 (fun _ _ => False) I5 (blk_fp hp f I5 n5) st5 go) fun r s6 ⟨u, hr, h6⟩ => ⟨u, hr, ?_⟩
  refine thnF h6 fun _ s7 ⟨x, H7, I7, r7, y7, st7, n7⟩ => ?_
  refine thnF (pg.run _ s7 _ H7 x u _ (I7.pinned (blk_fp hp f I7 n7) (T.obj _ _ st7)) r7 (step x H7 y7)) fun _ s8 ⟨σ8, H8, I8, hw8, q8⟩ => ?_
  refine thnF (pt.run _ s8 σ8 H8 _ I8 q8) fun b s9 ⟨H9, I9, q9⟩ => ?_
  have last : ∀ {s' : Shared} {H' : Hp}, Inv (blkH X s H scope ce fp p) ([] ++ pinsAt fp s7.heap) σ8 H' s' → Nx H' → G s' := fun {s' H'} J' nx => by
    have at7 : ∀ b ∈ fp, ∀ o, s7.heap.get? b = some o → s'.heap.get? b = some o ∧ H' b = none := fun b hb o e =>
      have z := J'.pin (b, o) (List.mem_append_right _ (List.mem_append_right _ (mem_pinsAt hb e)))
      ⟨z.1, z.2.1⟩
    refine fin s' H' ((J'.unpinned (pins := [])).weak (by rw [← hw8, wipe_length]) fun j v e => ?_) (T.keep _ _ _ st7 fun b hb o e => (at7 b hb o e).1) (fun b hb => ?_) nx
    · rw [← hw8] at e
      exact (wipe_some e).1
    · obtain ⟨o, e, _⟩ := T.obj _ _ st7 b hb
      exact (at7 b hb o e).2
  cases b with
  | false =>
    simp only [Bool.false_eq_true, if_false] at q9 ⊢
    exact last I9 q9
  | true =>
    simp only [if_true] at q9 ⊢
    refine thnF (pe.run _ s9 σ8 H9 _ I9 q9) fun z s10 ⟨yv, H10, I10, r10, acc, hD, hz, nx⟩ => ?_
    exact app_ok (X := blkH X s H scope ce fp p) I10 hD hz r10 fun s11 I11 => last I11 nx
/-- [elt for tg in iter if ..] within an except suite -/
theorem pe_lcH {elt tg iter : Expr} {ifs : List Expr} {scope : Scope} {own : List (Str × Nat)} {pos : Pos} {wi : TI} {g : TG} {tt : TT} {te : TE} (hc : HotC X) (hN : X.N.Nodup) (hi : PIH X tg iter wi) (ok : BlkOk X.N X.env.scope scope own)
    (hg : ∀ (s : Shared) (H : Hp) (C : Addr) (cl : List (Str × Addr)) (fp : List Addr) (p : Addr × Obj), Hot1 X.A p → PG (blkH X s H scope (compEnvC scope cl C X.env) fp p) tg g)
    (ht : ∀ (s : Shared) (H : Hp) (C : Addr) (cl : List (Str × Addr)) (fp : List Addr) (p : Addr × Obj), Hot1 X.A p → PTs (blkH X s H scope (compEnvC scope cl C X.env) fp p) ifs tt)
    (he : ∀ (s : Shared) (H : Hp) (C : Addr) (cl : List (Str × Addr)) (fp : List Addr) (p : Addr × Obj), Hot1 X.A p → PE (blkH X s H scope (compEnvC scope cl C X.env) fp p) elt te)
    (hs : ∀ x, foldedSetIterable iter X.env x = pure x := by intro _; rfl) : PE X (.ListComp elt [⟨tg, iter, ifs, 0⟩] scope pos) (tLc wi g tt te (own.map (·.2))) := by
  refine ⟨fun pins s σ H Q I h => ?_⟩
  rw [eval_ListComp]
  obtain ⟨p, hot, hp⟩ := hc
  have has : ∀ y ∈ scope.names, y.2 = .free → ∃ c, X.env.cells.lookup y.1 = some c := fun y hy e => (ok.free y hy e).elim (fun k => I.ok.has _ (.inl k)) fun k => I.ok.has _ (.inr k)
  refine wpAny_comprehension_free (use := none) rfl hs (closure_ok has) ok.kind (fun y hy e => by rw [ok.uniq y hy, e]) (thn (hi.run pins s σ H _ I h) fun xv s1 hx => thn hx fun itv s2 h2 => ?_)
  obtain ⟨it, fp, tn, J, H2, rfl, I2, T, st2, f2, q⟩ := h2
  refine wpAny_newObj_type (newEnv_comp ?_) (by show 0 ≤ sizeLine; decide)
  obtain ⟨W, ⟨m0, w0⟩, turn⟩ := q s2.heap.objs.size (I2.hok.fresh (Nat.le_refl _))
  generalize hD : s2.heap.objs.size = D at turn w0
  generalize hs3 : ({ s2 with heap := s2.heap.push { cls := .type "list", data := .seq ([] : List Value).toArray } } : Shared) = s3
  have h3 : s3.heap = s2.heap.push { cls := .type "list", data := .seq ([] : List Value).toArray } := by rw [← hs3]
  have I3 : Inv X pins σ (upd H2 D (.lst [])) s3 := by
    rw [← hs3]
    refine I2.laid (t' := s2.toks) (fun b o e => Heap.get?_push_of_some _ e) (Nat.le_of_eq hD) ⟨Nat.zero_le _, [], 0, .nil, ?_⟩
    rw [← hD]
    exact Heap.get?_push_size _ rfl
  have f3 : ∀ b ∈ fp, FpOk X pins (upd H2 D (.lst [])) b ∧ b < s3.heap.objs.size := fun b hb => by
    obtain ⟨o, e, _⟩ := T.obj _ _ st2 b hb
    have lt := Heap.lt_size e
    exact ⟨⟨by rw [upd_ne (by rw [← hD]; exact Nat.ne_of_lt lt)]; exact (f2 b hb).1, (f2 b hb).2⟩, by rw [h3, Heap.size_push]; exact Nat.lt_succ_of_lt lt⟩
  have F3 : ∀ b ∈ fp, FpOk X pins (upd H2 D (.lst [])) b := fun b hb => (f3 b hb).1
  have st4 : tn 0 (blkS s3 scope).heap := T.keep _ _ _ st2 fun b _ o e => pushCells_keeps _ _ _ _ (Heap.get?_push_of_some _ (by rw [h3]; exact Heap.get?_push_of_some _ e))
  have I4 := blk_in (scope := scope) (own := own) I3 ok hN hp f3
  have pg := hg s3 (upd H2 D (.lst [])) s3.heap.objs.size (cellsFrom (s3.heap.objs.size + 1) scope.names (cloFrom X.env.cells scope.names [])) fp p hot
  have pt := ht s3 (upd H2 D (.lst [])) s3.heap.objs.size (cellsFrom (s3.heap.objs.size + 1) scope.names (cloFrom X.env.cells scope.names [])) fp p hot
  have pe := he s3 (upd H2 D (.lst [])) s3.heap.objs.size (cellsFrom (s3.heap.objs.size + 1) scope.names (cloFrom X.env.cells scope.names [])) fp p hot
  have n0 : ∀ b ∈ fp, (upd H2 D (.lst [])) b = none := fun b hb => (F3 b hb).1
  have back : ∀ {i' : Nat} {H' : Hp} {s' : Shared}, Inv (blkH X s3 (upd H2 D (.lst [])) scope (blkE X s3 scope) fp p) [] (wipe σ (own.map (·.2))) H' s' → Q (.ref D) H' →
      compPost (model X.prog X.w) X.A X.xe none (EP X pins σ Q) (.ref D) s3.heap.objs.size (.ok .next) s' := fun {i' H' s'} J' qq => by
    have I7 := blk_out I3 F3 J'
    obtain ⟨m, hn, _⟩ := J'.loc
    refine ⟨m, hn, fun h'' sb => ?_⟩
    obtain ⟨f0, f1, f2, f3, f4, f5⟩ := I3.fpOk (H' := H') (b := s3.heap.objs.size) (Nat.le_refl _) J'.free
    exact ⟨.ref D, H', I7.turned (t' := s'.toks) (fun b o hb e => (sb.2 b hb).trans e) f0 f1 f3 f4 f5, rfl, qq⟩
  have loop : codeAny (model X.prog X.w) X.A (.compLoop (.ListComp elt [⟨tg, iter, ifs, 0⟩] scope pos) 0 (.ref it) (.ref D) (blkE X s3 scope)) (compPost (model X.prog X.w) X.A X.xe none (EP X pins σ Q) (.ref D) s3.heap.objs.size) (blkS s3 scope) := by
    refine compLoop_any (fun n s' => ∃ i H', Inv (blkH X s3 (upd H2 D (.lst [])) scope (blkE X s3 scope) fp p) [] (wipe σ (own.map (·.2))) H' s' ∧ tn i s'.heap ∧ (∀ b ∈ fp, H' b = none) ∧ W i n H') ?_ m0 ⟨0, _, I4, st4, n0, w0⟩
    rintro n s5 ⟨i, H5, I5, st5, n5, w5⟩
    rcases turn i n H5 w5 with ⟨stop, qq⟩ | ⟨go, Nx, hNx, step⟩
    · refine thnF (T.done (blkH X s3 (upd H2 D (.lst [])) scope (blkE X s3 scope) fp p) rfl rfl rfl ⟨p, hot, by simp⟩ i [] s5 _ H5 (fun _ _ => False) I5 (blk_fp hp F3 I5 n5) st5 stop) fun r s6 ⟨hr, I6⟩ => ?_
      subst hr
      exact back (i' := i) I6 qq
    · refine wpAny_mono (blk_turn hot hp F3 T pg pt pe I5 st5 n5 go step (G := fun s' => ∃ m, m < n ∧ ∃ i H', Inv (blkH X s3 (upd H2 D (.lst [])) scope (blkE X s3 scope) fp p) [] (wipe σ (own.map (·.2))) H' s' ∧ tn i s'.heap ∧ (∀ b ∈ fp, H' b = none) ∧ W i m H') fun s' H' I' st' n' nx => ?_) (fun r s6 ⟨u, hr, h6⟩ => ?_) fun _ _ z => z
      · obtain ⟨m', hm, w'⟩ := hNx H' nx
        exact ⟨m', hm, i + 1, H', I', st', n', w'⟩
      · subst hr
        exact h6
  exact codeAny_compStart_list loop (T.self X.A 0 _ _ _ st4 loop)
end
end Pu
set_option Elab.async false
set_option linter.all false
set_option maxRecDepth 100000
set_option maxHeartbeats 2000000
/-! Ph3: lambdas whose exceptions bear no context. -/
namespace Pu
open PySem PySem.Spec PyProof PyProof.Rows L2 LamX
/-- LamX.lamCx with L2N's way out -/
abbrev lamN (X : Cx) (A : Around) (outer : List Env) (s : Shared) (H : Hp) (E : XK) (scope : Scope) (f c' : Addr) : Cx :=
  (lamCx X A outer s H E scope f c').tr [] fun e s' => wpAny (model X.prog X.w) (A.deeper (lamEnv X scope s.heap.objs.size f c')) (leaving (lamEnv X scope s.heap.objs.size f c') e) (fun _ s'' => L2N.CX X.prog X.w outer H s E e s'') (fun e' s'' => L2N.CX X.prog X.w outer H s E e' s'') s'
section
variable {X : Cx} {pins : List (Addr × Obj)} {σ : L2.St} {H : Hp} {s : Shared}
abbrev gcx (X : Cx) (Ng : List Str) (qg : Str) (sg : Scope) (g : Addr) (cdg : Value) (s : Shared) (H : Hp) : Cx := cxOf (L2N.CX X.prog X.w) X.prog X.w X.K X.mg X.base Ng qg sg g cdg X.A X.stack s H C8.E0
/-- the lambda called by the def that got it (LamX.pe_act for L2N) -/
theorem pe_actN {Ng : List Str} {qg : Str} {sg : Scope} {g f c' : Addr} {cdg pm ctv : Value} {params : Arguments} {body : Expr} {scope : Scope} {k i : Nat} {a : Str} {pn : List (Addr × Obj)} {xe : Value → Shared → Prop} {W : WX} {E : XK} {tb : TE} {p1 p2 : Pos}
    (I : Inv X pins σ H s) (L : LamS X.env.scope scope) (hf : s.heap.get? f = some (PySem.W.kla_obj "<lambda>" (X.env.qual ++ "<lambda>") params body scope (cloFrom X.env.cells scope.names []) pm c' ctv)) (hfn : H f = none) (hfr : f ∉ frs X.stack)
    (hbind : bindArgs (PySem.W.kla_fn "<lambda>" (X.env.qual ++ "<lambda>") params body scope (cloFrom X.env.cells scope.names []) pm (.ref c') ctv) ⟨[], []⟩ = pure [])
    (tk : L2N.Takes ((gcx X Ng qg sg g cdg s H).tr pn xe) W) (hW : ∀ cls d σ' H', E cls d H' → W cls d σ' H') (hr : Room (k + 1) (X.A.deeper (envOfC qg sg s.heap.objs.size g cdg)))
    (hbody : ∀ (A : Around) (outer : List Env) (s : Shared) (H : Hp), Room k (A.deeper (lamEnv X scope s.heap.objs.size f c')) → PE (lamN X A outer s H E scope f c') body tb)
    (hN : Ng[i]? = some a) (hv : Vis sg a) (hd : (a == ("__debug__" : Str)) = false := by decide) (hcd : (a == ("__classdict__" : Str)) = false := by decide) :
    PE ((gcx X Ng qg sg g cdg s H).tr pn xe) (.Call (.Name a p1) [] [] p2)
      (fun σZ HZ Q => σZ[i]? = some (some (.ref f)) ∧ HZ c' = some (CodeO c' (X.env.qual ++ "<lambda>")) ∧ tb σ HZ Q) := by
  refine ⟨fun pinsZ sZ σZ HZ Q IZ ⟨hs, hc, ht⟩ => ?_⟩
  refine wpAny_Call_Name_kw (thn ((pe_var (pos := p1) (i := i) hN hv hd hcd).run pinsZ sZ σZ HZ (fun v H1 => v = .ref f ∧ H1 = HZ) IZ ⟨.ref f, hs, rfl, rfl⟩) fun u s1 ⟨v, H1, I1, r1, ev, eH⟩ => ?_)
  subst ev
  rw [eH] at I1
  obtain rfl : u = Value.ref f := r1
  have of1 := I1.base.keep f _ hf hfn hfr (fun z => nomatch (show f ∈ ([] : List Addr) from z))
  refine PySem.W.callWith_F0 ⟨_, _, _, _, of1⟩ ?_
  obtain ⟨⟨oc, vs, t, hoc, hdc, hvc⟩, _, _⟩ := I1.hok c' _ hc
  have rc : codeAny (model X.prog X.w) (X.A.deeper (envOfC qg sg s.heap.objs.size g cdg)) (.call (.ref f) ⟨[], []⟩) (CR (L2N.CX X.prog X.w) (envOfC qg sg s.heap.objs.size g cdg :: X.stack) X.prog X.w HZ s1 Q E) s1 := by
    refine PySem.W.kla_callFunE hr.depth of1 rfl L.co L.gen rfl ⟨c', oc, vs, t, rfl, hoc, hdc, hvc⟩ ?_
    rw [hbind]
    refine wpAny_pure (wpAny_newFunctionEnv (fun y hy => (L.own y hy).2) (fun y hy => absurd hy (by simp)) (fun h₁ hns hsb => ⟨I1.nolimit.fresh _ hsb, ?_⟩) L.kind)
    show codeAny _ _ (.expr body (lamEnv X scope s1.heap.objs.size f c')) _ _
    have J : Inv (lamCx X (X.A.deeper (envOfC qg sg s.heap.objs.size g cdg)) (envOfC qg sg s.heap.objs.size g cdg :: X.stack) s1 HZ E scope f c') [] σ HZ { s1 with heap := h₁, toks := s1.toks + ([] : List (Str × Value)).length } :=
      lam_start2 I L I1.env0 hr.hd I1.base hns fun b o e => hsb.extBut b o (Nat.ne_of_lt (Heap.lt_size e)) (Heap.get?_push_of_some _ e)
    refine PySem.W.kla_codeExpr (wpAny_mono ((hbody _ _ s1 HZ (hr.deeper _)).run [] _ _ HZ Q (J.toTry _) ht) (fun v s' ⟨w', H', J', rv, q⟩ => ?_) fun e s' hq => hq)
    exact ⟨w', H', J'.os, J'.bare, J'.base, J'.hok, rv, q⟩
  refine wpAny_call (codeAny_mono rc fun r s' hq => ?_)
  cases r with
  | error e => exact L2N.passes_call tk (fun cls d σ H h => hW cls d σ H h) pinsZ σZ HZ s1 e s' I1 hq
  | ok fl =>
    cases fl with
    | ret u => exact I1.after hq
    | next => exact False.elim hq
    | brk => exact False.elim hq
    | cont => exact False.elim hq
/-- the def g that calls what it got, its way out closed -/
def GivesN (X : Cx) (Ng : List Str) (x : Str) (sg : Scope) (g : Addr) (cdg : Value) (bg : List Stmt) (a : Str) (q : Str) (TT : (XK → Hp → VK → Prop) → Hp → VK → Prop) : Prop :=
  ∀ (f c' : Addr) (s : Shared) (H : Hp) (Q : VK) (tl : XK → Hp → VK → Prop),
    (∀ (W : WX) (pn : List (Addr × Obj)) (xe : Value → Shared → Prop) (E : XK) (p1 p2 : Pos), L2N.Takes ((gcx X Ng x sg g cdg s H).tr pn xe) W → (∀ cls d σ' H', E cls d H' → W cls d σ' H') →
      PE ((gcx X Ng x sg g cdg s H).tr pn xe) (.Call (.Name a p1) [] [] p2) (fun σZ HZ Q => σZ[0]? = some (some (.ref f)) ∧ HZ c' = some (CodeO c' q) ∧ tl E HZ Q)) →
    H c' = some (CodeO c' q) → TT tl H Q → ∃ t, PSs (gcx X Ng x sg g cdg s H).nox bg t ∧ t { nx := fun _ H' => Q .non H', rt := Q } (L2.start Ng [.ref f]) H
/-- x(lambda: body), for L2N -/
theorem pe_lamN {T : List (Addr × Str)} {TT : (XK → Hp → VK → Prop) → Hp → VK → Prop} {x a : Str} {g c P : Addr} {k : Nat} {pg : Arguments} {bg : List Stmt} {sg : Scope} {dV kV doc pm cdv ct oc : Value} {an od : Option Addr} {osl : Array (Option Value)} {Ng : List Str}
    {params : Arguments} {body : Expr} {scope : Scope} {t : XK → TE} {p lpos pos : Pos} (hg : Gl X x) (hm : X.mg x = some (.ref g)) (hk : PySem.W.keepIn X.K (.ref g) = true)
    (lk : X.K.lookup g = some ⟨oc, od, .func (PySem.W.fnOf x x pg bg sg dV kV doc pm an cdv ct), osl⟩) (hcg : PySem.W.codeIn X.K cdv x = true) (hb : L2.Binds X.K (PySem.W.fnOf x x pg bg sg dV kV doc pm an cdv ct) [a] []) (Sg : FnScope Ng [a] sg) (hNg : Ng[0]? = some a) (hva : Vis sg a)
    (hG : GivesN X Ng x sg g cdv bg a (X.env.qual ++ "<lambda>") TT)
    (TB : TabB X.base X.mg c P) (hcode : X.env.code = .ref c) (hmT : (P, X.env.qual ++ "<lambda>") ∈ T) (hu : ∀ p ∈ T, p.1 = P → p.2 = X.env.qual ++ "<lambda>") (hr : Room (k + 2) X.A) (L : LamS X.env.scope scope) (hdef : defaultsOf params X.env = ([], []))
    (hbind : ∀ (q : Str) (cl : List (Str × Addr)) (pm cv ctv : Value), bindArgs (PySem.W.kla_fn "<lambda>" q params body scope cl pm cv ctv) ⟨[], []⟩ = pure [])
    (hbody : ∀ (A : Around) (outer : List Env) (s : Shared) (H : Hp) (E : XK) (f c' : Addr), Room k (A.deeper (lamEnv X scope s.heap.objs.size f c')) → PE (lamN X A outer s H E scope f c') body (t E))
    (hdb : (x == ("__debug__" : Str)) = false) (hd : (a == ("__debug__" : Str)) = false) (hcd : (a == ("__classdict__" : Str)) = false) :
    PE X (.Call (.Name x p) [.Lambda params body scope lpos] [] pos) (tLam T TT t) := by
  refine ⟨fun pins s σ H Q I ⟨hT, h⟩ => ?_⟩
  refine wpAny_Call_Name_kw (ld_glob I hg hm (PySem.W.callWith_K (h₀ := X.base) I.ok.mod.kin hk ?_ (by rfl) (by rfl)) hdb)
  show wpAny _ _ (spliced ((false, eval (.Lambda params body scope lpos) X.env) :: backTo pos (starEach [] X.env))) _ _ s
  refine Calls.spliced_cons (lam_make2 I TB hcode hmT hu hT hdef (L.has I.ok) fun f c' pm' ctv H1 s' I1 eN T1 hf hfn hfr hco => Calls.spliced_nil ⟨I1.kIn, ?_⟩)
  have rc : codeAny (model X.prog X.w) X.A (.call (.ref g) ⟨[.ref f], []⟩) (CR (L2N.CX X.prog X.w) X.stack X.prog X.w H1 s' Q C8.E0) s' := by
    refine run_ofS (N := Ng) (ps := [a]) (us := [.ref f]) (vs := [.ref f]) lk hcg Sg hr I1.env0 (hb s' [.ref f] I1.kIn rfl) (.cons rfl .nil) rfl fun hr' => ?_
    obtain ⟨t', ht', hq'⟩ := hG f c' s' H1 Q (fun E H' Q' => t E σ H' Q') (fun W pn xe E p1 p2 tk hW => pe_actN (i := 0) I1 L hf hfn hfr (hbind _ _ _ _ _) tk hW hr' (fun A outer s H hr2 => hbody A outer s H E f c' hr2) hNg hva hd hcd) hco (h H1 eN T1)
    exact ⟨t', ht'.nox, hq'⟩
  refine wpAny_call (codeAny_mono rc fun r s2 hq => ?_)
  cases r with
  | error e =>
    obtain ⟨_, _, _, _, _, _, _, _, _, _, _, _, z⟩ := hq
    exact z.elim
  | ok fl =>
    cases fl with
    | ret u => exact I1.after hq
    | next => exact False.elim hq
    | brk => exact False.elim hq
    | cont => exact False.elim hq
end
end Pu
set_option Elab.async false
set_option linter.all false
set_option maxRecDepth 100000
set_option maxHeartbeats 1000000
/-! Pu13: the pure layer: reading expressions off the text. -/
namespace Pu
open PySem L2 PyProof.Rows
inductive Gv where
  | fn (n : Nat) (io : Option Nat) (pf : PF)
  | con (d : D)
  | blt
  | cls
  /-- a def that calls what it gets, and tells what was raised -/
  | tel (ret : Str) (ht : Exn → Option D)
structure Gx where
  N : List Str
  sc : Scope
  fn : Str → Bool
  gl : List (Str × Gv)
  lam : Bool := false
  own : List Str := []
def veMro : List Value := [.type "ValueError", .type "Exception", .type "BaseException", .type "object"]
def TelOk (P : Program) (w : World) (K : PySem.W.Frag) (mg : Str → Option Value) (base : Heap) (XR : Exn → Value → Option Addr → Hp → Prop) (x ret : Str) (ht : Exn → Option D) : Prop :=
  ∃ (g : Addr) (a : Str) (pg : Arguments) (bg : List Stmt) (sg : Scope) (dV kV doc pm : Value) (an : Option Addr) (cdv ct oc : Value) (od : Option Addr) (osl : Array (Option Value)) (Ng : List Str) (Ech : VK → XK),
    mg x = some (.ref g) ∧ PySem.W.keepIn K (.ref g) = true ∧ K.lookup g = some ⟨oc, od, .func (PySem.W.fnOf x x pg bg sg dV kV doc pm an cdv ct), osl⟩ ∧ PySem.W.codeIn K cdv x = true ∧
    Binds K (PySem.W.fnOf x x pg bg sg dV kV doc pm an cdv ct) [a] [] ∧ FnScope Ng [a] sg ∧ Ng[0]? = some a ∧ Vis sg a ∧ (a == ("__debug__" : Str)) = false ∧ (a == ("__classdict__" : Str)) = false ∧
    (∀ (X : Cx) (q : Str), X.prog = P → X.w = w → X.K = K → X.mg = mg → X.base = base → GivesN X Ng x sg g cdv bg a q (fun tl H Q => tl (Ech Q) H fun _ H' => Q (.str ret) H')) ∧
    (∀ (ex : Exn) (d' : D), ht ex = some d' → ∀ (cls : Value) (da : Option Addr) (F H : Hp) (Q : VK), XR ex cls da H → Sub F H → LamX.Tabs (tabsK K) H → (∀ b o, F b = some o → NT o) → (∀ v F' H', CallS K F [] [] H F' [] H' → Rp K F' v d' → Q v H') → Ech Q cls da H)
/-- what is known of a global name at a level -/
def GvK (P : Program) (w : World) (K : PySem.W.Frag) (mg : Str → Option Value) (base : Heap) (XR : Exn → Value → Option Addr → Hp → Prop) (k : Nat) (x : Str) : Gv → Prop
  | .fn n _ pf => ∃ f fd ps, ps.length = n ∧ FnOk P w K mg base (L2N.CX P w) k f fd ps (spP K XR n pf) ∧ mg x = some (.ref f) ∧ PySem.W.keepIn K (.ref f) = true ∧ Binds K fd ps [] ∧ f = He.ga K x
  | .con d => ∃ u v, mg x = some u ∧ RelV v u ∧ ∀ F, Rp K F v d
  | .blt => mg x = none
  | .cls => ∃ C, mg x = some (.ref C) ∧ PySem.W.excIn K C veMro "ValueError.__new__" = true ∧ PySem.W.keepIn K (.ref C) = true ∧ PySem.W.subIn K (.ref C) (.type "BaseException") = some true ∧ PySem.W.typeIn K (.ref C) = some (.type "type") ∧ ∀ H, XR ⟨x, none⟩ (.ref C) none H
  | .tel ret ht => TelOk P w K mg base XR x ret ht
structure CxP (w : Wi) (X : Cx) (G : Gx) : Prop where
  kd : w.K = X.K
  nn : X.N = G.N
  nd : X.N.Nodup
  sc : X.env.scope = G.sc
  calm : X.calm = true
  fn : ∀ x, G.fn x = true → X.fn x = true
  un : X.A.units + 70 < cLine
  tk : L2N.Takes X w.W
  gk : ∃ k, Room (cond G.lam (k + 2) k) X.A ∧ ∀ x g, G.gl.lookup x = some g → GvK X.prog X.w X.K X.mg X.base w.XR k x g
  tb : G.lam = true → ∃ c P, X.env.code = .ref c ∧ LamX.TabB X.base X.mg c P ∧ (P, X.env.qual ++ "<lambda>") ∈ tabsK X.K ∧ ∀ p ∈ tabsK X.K, p.1 = P → p.2 = X.env.qual ++ "<lambda>"
theorem room_le {b : Bool} {k : Nat} {A : Around} (r : Room (cond b (k + 2) k) A) : Room k A := by
  cases b with
  | true => exact Room.mono r (by show k ≤ k + 2; omega)
  | false => exact r
/-- a comprehension's frame -/
def Gx.blk (G : Gx) (scope : Scope) : Gx := { N := G.N, sc := relS scope G.sc, fn := fun x => scope.names.lookup x == some .cell, gl := G.gl, lam := G.lam, own := G.own }
theorem CxP.blk {w : Wi} {X : Cx} {G : Gx} (c : CxP w X G) (scope : Scope) (s : Shared) (H : Hp) (C : Addr) (cl : List (Str × Addr)) (fp : List Addr) : CxP w.blk (X.blk s H scope (compEnvC scope cl C X.env) fp) (G.blk scope) where
  kd := c.kd
  nn := c.nn
  nd := c.nd
  sc := by
    show relS scope X.env.scope = relS scope G.sc
    rw [c.sc]
  calm := c.calm
  fn := fun x h => h
  un := c.un
  tk := fun _ _ x => by
    obtain ⟨_, _, _, _, _, _, _, _, _, _, _, _, _, _, _, _, z⟩ := x
    exact z.elim
  gk := c.gk
  tb := c.tb
/-- a lambda's frame -/
def Gx.lamG (G : Gx) (scope : Scope) : Gx := { N := G.N, sc := scope, fn := fun _ => false, gl := G.gl, lam := false }
theorem CxP.lam {w : Wi} {X : Cx} {G : Gx} (c : CxP w X G) {k : Nat} (hg : ∀ x g, G.gl.lookup x = some g → GvK X.prog X.w X.K X.mg X.base w.XR k x g) (scope : Scope) (A : Around) (outer : List Env) (s : Shared) (H : Hp) (E : XK) (f c' : Addr) (hr : Room k (A.deeper (LamX.lamEnv X scope s.heap.objs.size f c'))) :
    CxP { w with W := fun cls d _ H => E cls d H } (lamN X A outer s H E scope f c') (G.lamG scope) where
  kd := c.kd
  nn := c.nn
  nd := c.nd
  sc := rfl
  calm := rfl
  fn := fun x h => by cases h
  un := by
    have := hr.un
    show (A.deeper (LamX.lamEnv X scope s.heap.objs.size f c')).units + 70 < cLine
    omega
  tk := L2N.takes_of rfl rfl rfl rfl
  gk := ⟨k, hr, hg⟩
  tb := fun h => by cases h
def okName (x : Str) : Bool := !(x == ("__debug__" : Str)) && !(x == ("__classdict__" : Str)) && !(x == ("__name__" : Str))
def slotE (G : Gx) (x : Str) : Option Nat := match G.sc.names.lookup x with
  | some .local => let i := G.N.idxOf x; if G.N[i]? = some x then some i else none
  | some .cell => let i := G.N.idxOf x; if G.N[i]? = some x then some i else none
  | some .free => let i := G.N.idxOf x; if G.N[i]? = some x then some i else none
  | _ => none
def glob (G : Gx) (x : Str) : Option Gv := if okName x = true then (match G.sc.names.lookup x with
  | some .globalImplicit => G.gl.lookup x
  | _ => none) else none
section
variable {w : Wi} {X : Cx} {G : Gx} {x : Str}
theorem okName_of (h : okName x = true) : (x == ("__debug__" : Str)) = false ∧ (x == ("__classdict__" : Str)) = false ∧ x ≠ "__name__" := by
  unfold okName at h
  simp only [Bool.and_eq_true, Bool.not_eq_true'] at h
  exact ⟨h.1.1, h.1.2, fun z => by rw [z] at h; simp at h⟩
theorem slotE_some (c : CxP w X G) {i : Nat} (h : slotE G x = some i) : X.N[i]? = some x ∧ Vis X.env.scope x := by
  unfold slotE at h
  rw [c.nn]
  unfold Vis
  rw [c.sc]
  split at h
  · rename_i e
    dsimp only at h
    split at h
    · rename_i e2; cases h; exact ⟨e2, .inl e⟩
    · cases h
  · rename_i e
    dsimp only at h
    split at h
    · rename_i e2; cases h; exact ⟨e2, .inr (.inl e)⟩
    · cases h
  · rename_i e
    dsimp only at h
    split at h
    · rename_i e2; cases h; exact ⟨e2, .inr (.inr e)⟩
    · cases h
  · cases h
theorem glob_some (c : CxP w X G) {g : Gv} (h : glob G x = some g) : Gl X x ∧ (∃ k, Room k X.A ∧ GvK X.prog X.w X.K X.mg X.base w.XR k x g) ∧ okName x = true := by
  unfold glob at h
  split at h
  · rename_i ho
    split at h
    · rename_i e
      obtain ⟨k, hr, hg⟩ := c.gk
      exact ⟨by show X.env.scope.names.lookup x = _; rw [c.sc]; exact e, ⟨k, room_le hr, hg x g h⟩, ho⟩
    · cases h
  · cases h
end

/-! ### argument lists -/
def isStar : Expr → Bool
  | .Starred _ _ => true
  | _ => false
def denL (f : Expr → Option (M Hd)) : List Expr → Option (List (M Hd))
  | [] => some []
  | e :: es => if isStar e = true then none else match f e, denL f es with
    | some m, some ms => some (m :: ms)
    | _, _ => none
theorem star_cons {e : Expr} {es : List Expr} {env : Env} (h : isStar e = false) : starEach (e :: es) env = (false, eval e env) :: starEach es env := by
  cases e <;> first | rfl | cases h
theorem denL_cons {f : Expr → Option (M Hd)} {e : Expr} {es : List Expr} {ms : List (M Hd)} (h : denL f (e :: es) = some ms) : ∃ m ms', ms = m :: ms' ∧ isStar e = false ∧ f e = some m ∧ denL f es = some ms' := by
  unfold denL at h
  split at h
  · cases h
  · rename_i hs
    split at h
    · rename_i m ms' e1 e2
      cases h
      exact ⟨m, ms', rfl, by simpa using hs, e1, e2⟩
    · cases h
theorem denL_any {f : Expr → Option (M Hd)} {pos : Pos} {env : Env} : ∀ {es : List Expr} {ms : List (M Hd)}, denL f es = some ms → (backTo pos (starEach es env)).any (·.1) = false
  | [], _, _ => rfl
  | e :: es, ms, h => by
    obtain ⟨m, ms', _, hs, _, h2⟩ := denL_cons h
    rw [star_cons hs]
    have ih := denL_any (pos := pos) (env := env) h2
    unfold backTo at ih ⊢
    rw [List.map_cons, List.any_cons, ih]
    rfl
theorem denL_pa {w : Wi} {X : Cx} {f : Expr → Option (M Hd)} (hf : ∀ e m, f e = some m → PE X e (tK w m)) : ∀ {es : List Expr} {ms : List (M Hd)}, denL f es = some ms → PA X es (tA w (mArgs ms))
  | [], ms, h => by cases h; exact sa_nil
  | e :: es, ms, h => by
    obtain ⟨m, ms', rfl, hs, h1, h2⟩ := denL_cons h
    exact sa_cons (hf e m h1) (denL_pa hf h2) (star_cons hs)

/-! ### operators -/
def binF : Operator → Option (D → D → Option RV)
  | .Add => some fAdd
  | .Sub => some fSub
  | .Mult => some fMul
  | .FloorDiv => some fDiv
  | .Mod => some fMod
  | .Pow => some fPow
  | _ => none
theorem binF_ok {w : Wi} {X : Cx} (hK : w.K = X.K) {op : Operator} {f : D → D → Option RV} (h : binF op = some f) : ∃ r, OpR X (binaryOp op) r ∧ Op2 w.K r f := by
  rw [hK]
  cases op <;> simp only [binF] at h <;> cases h
  · exact ⟨_, or_add, ok_add⟩
  · exact ⟨_, op_sub, ok_sub⟩
  · exact ⟨_, or_mul, ok_mul⟩
  · exact ⟨_, op_mod, ok_mod⟩
  · exact ⟨_, op_pow, ok_pow⟩
  · exact ⟨_, op_fdiv, ok_div⟩
def cmpF : CmpOp → (D → D → Option RV)
  | .Eq => fEq
  | .NotEq => fNe
  | .Lt => fLt
  | .LtE => fLe
  | .Gt => fGt
  | .GtE => fGe
  | .Is => fIs false
  | .IsNot => fIs true
  | .In => fIn false
  | .NotIn => fIn true
theorem cmpF_ok {w : Wi} {X : Cx} (hK : w.K = X.K) (hu : X.A.units + 70 < cLine) (op : CmpOp) : ∃ r, OpR X (compareOp op) r ∧ Op2 w.K r (cmpF op) := by
  rw [hK]
  cases op
  · exact ⟨_, op_eqA hu, ok_eq⟩
  · exact ⟨_, op_neA hu, ok_ne⟩
  · exact ⟨_, op_ltA hu, ok_ord _ _⟩
  · exact ⟨_, op_leA hu, ok_ord _ _⟩
  · exact ⟨_, op_gtA hu, ok_ord _ _⟩
  · exact ⟨_, op_geA hu, ok_ord _ _⟩
  · exact ⟨_, op_isA, ok_is _⟩
  · exact ⟨_, op_isnotA, ok_is _⟩
  · exact ⟨_, or_in hu, ok_in _⟩
  · exact ⟨_, or_notin hu, ok_in _⟩

theorem ite_some {α : Type} {c : Prop} [Decidable c] {a b : Option α} {f : α} (h : (if c then a else b) = some f) : (c ∧ a = some f) ∨ (¬ c ∧ b = some f) := by
  by_cases hc : c
  · rw [if_pos hc] at h; exact .inl ⟨hc, h⟩
  · rw [if_neg hc] at h; exact .inr ⟨hc, h⟩
/-! ### built-ins by name -/
def bltF (x : Str) : Option (List D → Option RV) :=
  if x = "len" then some fLen else if x = "list" then some fList else if x = "tuple" then some fTuple else if x = "all" then some fAll else if x = "any" then some fAny else if x = "sum" then some fSum
  else if x = "max" then some fMax else if x = "min" then some fMin else if x = "abs" then some fAbs else if x = "int" then some fInt else if x = "str" then some fStr else if x = "ord" then some fOrdC else if x = "sorted" then some fSorted else none
theorem bltF_ok {w : Wi} {X : Cx} (hK : w.K = X.K) (hc : X.calm = true) (hu : X.A.units + 70 < cLine) {x : Str} {f : List D → Option RV} (h : bltF x = some f) :
    ∃ r, OpN w.K r f ∧ ((∃ id, CallR X (.builtin id) r ∧ bootBuiltins x = some (.builtin id)) ∨ ∃ id, CallR X (.type id) r ∧ bootBuiltins x = some (.type id)) := by
  rw [hK]
  unfold bltF at h
  rcases ite_some h with ⟨e, h⟩ | ⟨_, h⟩
  · rw [e]; cases h; exact ⟨_, ok_len, .inl ⟨_, call_len, boot_len⟩⟩
  rcases ite_some h with ⟨e, h⟩ | ⟨_, h⟩
  · rw [e]; cases h; exact ⟨_, ok_list, .inr ⟨_, call_list_of, boot_list⟩⟩
  rcases ite_some h with ⟨e, h⟩ | ⟨_, h⟩
  · rw [e]; cases h; exact ⟨_, ok_tuple, .inr ⟨_, call_tuple_of, boot_tuple⟩⟩
  rcases ite_some h with ⟨e, h⟩ | ⟨_, h⟩
  · rw [e]; cases h; exact ⟨_, ok_all, .inl ⟨_, cr_all hc, boot_all⟩⟩
  rcases ite_some h with ⟨e, h⟩ | ⟨_, h⟩
  · rw [e]; cases h; exact ⟨_, ok_any, .inl ⟨_, cr_any hc, boot_any⟩⟩
  rcases ite_some h with ⟨e, h⟩ | ⟨_, h⟩
  · rw [e]; cases h; exact ⟨_, ok_sum, .inl ⟨_, cr_sum hc, boot_sum⟩⟩
  rcases ite_some h with ⟨e, h⟩ | ⟨_, h⟩
  · rw [e]; cases h; exact ⟨_, ok_max, .inl ⟨_, (cr_max hc).or (call_max2 hc), boot_max⟩⟩
  rcases ite_some h with ⟨e, h⟩ | ⟨_, h⟩
  · rw [e]; cases h; exact ⟨_, ok_min, .inl ⟨_, (cr_min hc).or (call_min2 hc), boot_min⟩⟩
  rcases ite_some h with ⟨e, h⟩ | ⟨_, h⟩
  · rw [e]; cases h; exact ⟨_, ok_abs, .inl ⟨_, call_abs, boot_abs⟩⟩
  rcases ite_some h with ⟨e, h⟩ | ⟨_, h⟩
  · rw [e]; cases h; exact ⟨_, ok_int, .inr ⟨_, or_int, boot_int⟩⟩
  rcases ite_some h with ⟨e, h⟩ | ⟨_, h⟩
  · rw [e]; cases h; exact ⟨_, ok_str, .inr ⟨_, call_str_int, boot_str⟩⟩
  rcases ite_some h with ⟨e, h⟩ | ⟨_, h⟩
  · rw [e]; cases h; exact ⟨_, ok_ordC, .inl ⟨_, call_ord, boot_ord⟩⟩
  rcases ite_some h with ⟨e, h⟩ | ⟨_, h⟩
  · rw [e]; cases h; exact ⟨_, ok_sorted, .inl ⟨_, call_sortA hu, boot_sorted⟩⟩
  cases h
end Pu
set_option Elab.async false
set_option linter.all false
set_option maxRecDepth 100000
set_option maxHeartbeats 2000000
/-! Pu14: the pure layer: reading expressions off the text. -/
namespace Pu
open PySem L2 PyProof.Rows
structure Den where
  E : Gx → Expr → Option (M Hd)
  T : Gx → Expr → Option (M Hd)
  I : Gx → Expr → Expr → Option (M (List D))
structure DenOk (d : Den) : Prop where
  E : ∀ {w : Wi} {X : Cx} {G : Gx} {e : Expr} {m : M Hd}, CxP w X G → d.E G e = some m → PE X e (tK w m)
  T : ∀ {w : Wi} {X : Cx} {G : Gx} {e : Expr} {m : M Hd}, CxP w X G → d.T G e = some m → PT X e (tT w m)
  I : ∀ {w : Wi} {X : Cx} {G : Gx} {tg e : Expr} {m : M (List D)}, CxP w X G → d.I G tg e = some m → PI X tg e (tI w m)

/-! ### targets -/
def slotS (G : Gx) (x : Str) : Option Nat := match G.sc.names.lookup x with
  | some .local => let i := G.N.idxOf x; if G.N[i]? = some x then some i else none
  | some .cell => let i := G.N.idxOf x; if G.N[i]? = some x ∧ G.fn x = true then some i else none
  | _ => none
def denNs (G : Gx) : List Expr → Option (List Nat)
  | [] => some []
  | .Name x _ :: es => (match slotS G x, denNs G es with
    | some i, some is => some (i :: is)
    | _, _ => none)
  | _ :: _ => none
def denG (G : Gx) : Expr → Option Tg
  | .Name x _ => (slotS G x).map .n
  | .Tuple es _ _ => (denNs G es).map .t
  | _ => none
section
variable {w : Wi} {X : Cx} {G : Gx}
theorem slotS_some (c : CxP w X G) {x : Str} {i : Nat} (h : slotS G x = some i) : X.N[i]? = some x ∧ L2.Loc X.env.scope x ∧ (X.fn x = true ∨ X.env.scope.names.lookup x = some .local) := by
  unfold slotS at h
  rw [c.nn]
  unfold L2.Loc
  rw [c.sc]
  split at h
  · rename_i e
    dsimp only at h
    split at h
    · rename_i e2; cases h; exact ⟨e2, .inl e, .inr e⟩
    · cases h
  · rename_i e
    dsimp only at h
    split at h
    · rename_i e2; cases h; exact ⟨e2.1, .inr e, .inl (c.fn x e2.2)⟩
    · cases h
  · cases h
theorem denName_ok (c : CxP w X G) {x : Str} {p : Pos} {i : Nat} (h : slotS G x = some i) : PG X (.Name x p) (tG w (.n i)) :=
  have z := slotS_some c h
  sg_name c.nd z.1 z.2.1 z.2.2
theorem denNs_ok (c : CxP w X G) : ∀ {es : List Expr} {is : List Nat}, denNs G es = some is → PGs X es (tGs w is) ∧ (assignEach es X.env).length = is.length ∧ (assignEach es X.env).findIdx? (·.1) = none
  | [], is, h => by cases h; exact ⟨sgs_nil, rfl, rfl⟩
  | .Name x p :: es, is, h => by
    have h : (match slotS G x, denNs G es with
      | some i, some is => some (i :: is)
      | _, _ => none) = some is := h
    split at h
    · rename_i i is' e1 e2
      cases h
      obtain ⟨h1, h2, h3⟩ := denNs_ok c e2
      refine ⟨sgs_cons (denName_ok c e1) h1 rfl, ?_, ?_⟩
      · show (assignEach es X.env).length + 1 = is'.length + 1
        rw [h2]
      · show List.findIdx? _ ((false, assign (.Name x p) X.env) :: assignEach es X.env) = none
        rw [List.findIdx?_cons]
        simp only [Bool.false_eq_true, if_false, h3, Option.map_none]
    · cases h
  | .BoolOp .. :: _, _, h | .NamedExpr .. :: _, _, h | .BinOp .. :: _, _, h | .UnaryOp .. :: _, _, h | .Lambda .. :: _, _, h | .IfExp .. :: _, _, h | .Dict .. :: _, _, h | .Set .. :: _, _, h | .ListComp .. :: _, _, h | .SetComp .. :: _, _, h | .DictComp .. :: _, _, h | .GeneratorExp .. :: _, _, h
  | .Await .. :: _, _, h | .Yield .. :: _, _, h | .YieldFrom .. :: _, _, h | .Compare .. :: _, _, h | .Call .. :: _, _, h | .FormattedValue .. :: _, _, h | .JoinedStr .. :: _, _, h | .Constant .. :: _, _, h | .Attribute .. :: _, _, h | .Subscript .. :: _, _, h | .Starred .. :: _, _, h | .List .. :: _, _, h | .Tuple .. :: _, _, h | .Slice .. :: _, _, h => by cases h
theorem denG_ok (c : CxP w X G) {e : Expr} {t : Tg} (h : denG G e = some t) : PG X e (tG w t) := by
  cases e with
  | Name x p =>
    obtain ⟨i, g, rfl⟩ := Option.map_eq_some_iff.mp (show (slotS G x).map .n = some t from h)
    exact denName_ok c g
  | Tuple es k p =>
    obtain ⟨is, g, rfl⟩ := Option.map_eq_some_iff.mp (show (denNs G es).map .t = some t from h)
    obtain ⟨h1, h2, h3⟩ := denNs_ok c g
    exact sg_tup c.kd c.calm h1 h2 h3
  | _ => cases h
end

/-! ### expressions -/
def escF (f : Expr → Option (M Hd)) (e : Expr) : Option (M Hd) := (f e).map mEsc
def constE : Const → Option (M Hd)
  | .int i => some (mC (.int i))
  | .bool b => some (mC (.bool b))
  | .str x => some (mC (.str x))
  | .none => some (mC .none)
  | _ => none
def nameE (G : Gx) (x : Str) : Option (M Hd) := if okName x = true then (match slotE G x with
  | some i => some (mSlot i)
  | none => (match glob G x with
    | some (.con d) => some (mC d)
    | _ => none)) else none
def binE (d : Den) (G : Gx) (a : Expr) (op : Operator) (b : Expr) : Option (M Hd) := match binF op, d.E G a, d.E G b with
  | some f, some ma, some mb => some (mBin f ma mb)
  | _, _, _ => none
def unE (d : Den) (G : Gx) (op : UnaryOp) (a : Expr) : Option (M Hd) := match op with
  | .USub => (d.E G a).map (mUn fNeg)
  | .Not => (d.E G a).map mNot
  | _ => none
def boolE (f : Expr → Option (M Hd)) (op : BoolOp) (vs : List Expr) (pos : Pos) : Option (M Hd) := match vs with
  | [] => none
  | [a] => f a
  | a :: b :: r => (match f a, f (.BoolOp op (b :: r) pos) with
    | some ma, some mb => some (match op with
      | .And => mAnd ma mb
      | .Or => mOr ma mb)
    | _, _ => none)
def cmpE (d : Den) (G : Gx) (a : Expr) (ops : List CmpOp) (bs : List Expr) : Option (M Hd) := match ops, bs with
  | [op], [b] => if behindInMarks op b = true then none else (match d.E G a, d.E G b with
    | some ma, some mb => some (mBin (cmpF op) ma mb)
    | _, _ => none)
  | [op, op'], [b, c] => if lastMarks [op, op'] [b, c] = true then none else (match d.E G a, d.E G b, d.E G c with
    | some ma, some mb, some mc => some (mChain (cmpF op) (cmpF op') ma mb mc)
    | _, _, _ => none)
  | _, _ => none
def ifE (d : Den) (G : Gx) (c a b : Expr) : Option (M Hd) := match d.T G c, d.E G a, d.E G b with
  | some mc, some ma, some mb => some (mIf mc ma mb)
  | _, _, _ => none
def denO (f : Expr → Option (M Hd)) : Option Expr → Option (M (Option Int))
  | none => some (optM none)
  | some e => (f e).map fun m => optM (some m)
def isM1 : Expr → Bool
  | .UnaryOp .USub (.Constant (.int i) _ _) _ => i == 1
  | _ => false
def subE (d : Den) (G : Gx) (a i : Expr) : Option (M Hd) := match i with
  | .Slice lo hi none _ => (match d.E G a, denO (d.E G) lo, denO (d.E G) hi with
    | some m, some ml, some mh => some (mCut m ml mh)
    | _, _, _ => none)
  | .Slice none none (some e) _ => if isM1 e = true then (d.E G a).map (mUn fRev) else none
  | .Slice _ _ _ _ => none
  | i => (match d.E G a, d.E G i with
    | some ma, some mi => some (mBin fItem ma mi)
    | _, _ => none)
def isSet : Expr → Bool
  | .Set _ _ _ => true
  | _ => false
def denIfs (d : Den) (G : Gx) : List Expr → Option (M Hd)
  | [] => some (mC (.bool true))
  | [c] => d.T G c
  | _ => none
def ownE (G : Gx) (scope : Scope) : List (Str × Nat) := scope.names.filterMap fun y => match y.2 with
  | .local => let i := G.N.idxOf y.1; if G.N[i]? = some y.1 then some (y.1, i) else none
  | .cell => let i := G.N.idxOf y.1; if G.N[i]? = some y.1 then some (y.1, i) else none
  | _ => none
def compE1 (d : Den) (G : Gx) (elt : Expr) (gens : List Comprehension) (scope : Scope) : Option (M Hd) := match gens with
  | [⟨tg, iter, ifs, a⟩] => if a = 0 ∧ isSet iter = false ∧ blkC G.N G.sc scope (ownE G scope) = true then (match d.I G tg iter, denG (G.blk scope) tg, denIfs d (G.blk scope) ifs, d.E (G.blk scope) elt with
    | some mi, some t, some mc, some me => if (t.slots.all fun i => ((ownE G scope).map (·.2)).contains i) = true then some (mComp ((ownE G scope).map (·.2)) mi t mc me) else none
    | _, _, _, _ => none) else none
  | _ => none
def slotsIn (vs : List Nat) (own : List (Str × Nat)) : Bool := vs.all fun i => (own.map (·.2)).contains i
def compE2 (d : Den) (G : Gx) (elt : Expr) (gens : List Comprehension) (scope : Scope) : Option (M Hd) := match gens with
  | [⟨tg, iter, ifs, a⟩, ⟨tg1, iter1, ifs1, a1⟩] => if a = 0 ∧ a1 = 0 ∧ isSet iter = false ∧ isSet iter1 = false ∧ blkC G.N G.sc scope (ownE G scope) = true then
    (match d.I G tg iter, denG (G.blk scope) tg, denIfs d (G.blk scope) ifs, d.I (G.blk scope) tg1 iter1, denG (G.blk scope) tg1, denIfs d (G.blk scope) ifs1, d.E (G.blk scope) elt with
    | some mi, some t, some mc, some mi1, some t1, some mc1, some me => if slotsIn t.slots (ownE G scope) = true ∧ slotsIn t1.slots (ownE G scope) = true then some (mComp2 ((ownE G scope).map (·.2)) t1.slots mi t mc mi1 t1 mc1 me) else none
    | _, _, _, _, _, _, _ => none) else none
  | _ => none
/-- over a list that stays one's own -/
def compEO (d : Den) (G : Gx) (elt : Expr) (gens : List Comprehension) (scope : Scope) : Option (M Hd) := match gens with
  | [⟨tg, .Name x _, ifs, a⟩] => if G.own.contains x = true ∧ okName x = true ∧ a = 0 ∧ blkC G.N G.sc scope (ownE G scope) = true then (match slotE G x, denG (G.blk scope) tg, denIfs d (G.blk scope) ifs, d.E (G.blk scope) elt with
    | some j, some t, some mc, some me => if (t.slots.all fun i => ((ownE G scope).map (·.2)).contains i) = true then some (mCompO j ((ownE G scope).map (·.2)) t mc me) else none
    | _, _, _, _ => none) else none
  | _ => none
/-- names of defs, read off a display -/
def fnNs (G : Gx) : List Expr → Option (List Str)
  | [] => some []
  | .Name x _ :: es => (match glob G x, fnNs G es with
    | some (.fn _ none _), some fs => some (x :: fs)
    | _, _ => none)
  | _ => none
/-- over names of defs -/
def compEF (d : Den) (G : Gx) (elt : Expr) (gens : List Comprehension) (scope : Scope) : Option (M Hd) := match gens with
  | [⟨.Name y _, .Tuple es _ _, ifs, a⟩] => if a = 0 ∧ blkC G.N G.sc scope (ownE G scope) = true ∧ es.length ≤ 1000 then (match slotS (G.blk scope) y, fnNs G es, denIfs d (G.blk scope) ifs, d.E (G.blk scope) elt with
    | some i, some (f :: fs), some mc, some me => if ((ownE G scope).map (·.2)).contains i = true then some (mCompF i ((ownE G scope).map (·.2)) (f :: fs) mc me) else none
    | _, _, _, _ => none) else none
  | _ => none
def compE (d : Den) (G : Gx) (elt : Expr) (gens : List Comprehension) (scope : Scope) : Option (M Hd) := match gens with
  | [_] => (match compEF d G elt gens scope with
    | some m => some m
    | none => match compEO d G elt gens scope with
      | some m => some m
      | none => compE1 d G elt gens scope)
  | _ => compE2 d G elt gens scope
/-- an argument: raw where the callee may change the list -/
def argF (d : Den) (G : Gx) (raw : Bool) (e : Expr) : Option (M Hd) := if raw = true then d.E G e else (d.E G e).map mEsc
def denAs (d : Den) (G : Gx) (io : Option Nat) : Nat → List Expr → Option (List (M Hd))
  | _, [] => some []
  | j, e :: es => if isStar e = true then none else match argF d G (io == some j) e, denAs d G io (j + 1) es with
    | some m, some ms => some (m :: ms)
    | _, _ => none
def isaE (d : Den) (G : Gx) (args : List Expr) : Option (M Hd) := match args with
  | [a, .Name T _] => if isStar a = true then none else (match glob G T, d.E G a with
    | some .blt, some m => if T = "int" then some (mUn (fIsa "int") m) else if T = "bool" then some (mUn (fIsa "bool") m) else if T = "str" then some (mUn (fIsa "str") m)
      else if T = "tuple" then some (mUn (fIsa "tuple") m) else if T = "list" then some (mUn (fIsa "list") m) else if T = "dict" then some (mUn (fIsa "dict") m) else none
    | _, _ => none)
  | _ => none
def rangeOf (G : Gx) (args : List Expr) : Option (List Expr) := match args with
  | [.Call (.Name r _) as [] _] => (match glob G r with
    | some .blt => if r = "range" then some as else none
    | _ => none)
  | _ => none
def rngE (d : Den) (G : Gx) (isL : Bool) (as : List Expr) : Option (M Hd) := match as with
  | [a] => if isStar a = true then none else (d.E G a).map (mUn (if isL then fRL1 else fRT1))
  | [a, b] => if isStar a = true then none else if isStar b = true then none else (match d.E G a, d.E G b with
    | some ma, some mb => some (mBin (if isL then fRL2 else fRT2) ma mb)
    | _, _ => none)
  | _ => none
def primE (d : Den) (G : Gx) (x : Str) (args : List Expr) : Option (M Hd) := match args with
  | [] => none
  | e :: es => (match bltF x, denL (d.E G) (e :: es) with
    | some f, some ms => some (mPrim f ms)
    | _, _ => none)
def bltE (d : Den) (G : Gx) (x : Str) (args : List Expr) : Option (M Hd) :=
  if x = "isinstance" then isaE d G args
  else match rangeOf G args with
    | some as => if x = "list" then rngE d G true as else if x = "tuple" then rngE d G false as else none
    | none => primE d G x args
def fnE (d : Den) (G : Gx) (n : Nat) (io : Option Nat) (pf : PF) (args : List Expr) : Option (M Hd) := match args with
  | [] => if n = 0 then some (mCall 0 pf []) else none
  | e :: es => (denAs d G io 0 (e :: es)).map (mCall n pf)
/-- what the def tells of `x(lambda: body)` -/
def mTel (ret : Str) (ht : Exn → Option D) (m : M Hd) : M Hd := fun ρ => match m ρ with
  | .ok _ ρ' => .ok (.v (.fz (.str ret))) ρ'
  | .exc x ρ' => (match ht x with
    | some d => .ok (.v (.fz d)) ρ'
    | none => .bad)
  | .bad => .bad
def noArgs (p : Arguments) : Bool := match p with
  | ⟨[], [], none, [], [], none, []⟩ => true
  | _ => false
def telE (d : Den) (G : Gx) (ret : Str) (ht : Exn → Option D) (args : List Expr) : Option (M Hd) := match args with
  | [.Lambda params body scope _] => if G.lam = true ∧ noArgs params = true ∧ LamX.lamSB G.sc scope = true then (d.E (G.lamG scope) body).map (mTel ret ht) else none
  | _ => none
def plainO : Expr → Bool
  | .Name _ _ => true
  | .Subscript _ _ _ => true
  | .List _ _ => true
  | _ => false
/-- which defs a local name may hold -/
def tabF (gl : List (Str × Gv)) (f : Str) : Option (Nat × PF) := match gl.lookup f with
  | some (.fn n none pf) => some (n, pf)
  | _ => none
def callvE (d : Den) (G : Gx) (x : Str) (args : List Expr) : Option (M Hd) := match slotE G x, args with
  | some i, e :: es => if okName x = true then (denAs d G none 0 (e :: es)).map (mCallV (tabF G.gl) i) else none
  | _, _ => none
def callE (d : Den) (G : Gx) (f : Expr) (args : List Expr) (kws : List Keyword) (cpos : Pos) : Option (M Hd) := match f, kws with
  | .Name x _, [] => (match glob G x with
    | some (.fn n io pf) => fnE d G n io pf args
    | some .blt => bltE d G x args
    | some (.tel ret ht) => telE d G ret ht args
    | none => callvE d G x args
    | _ => none)
  | .Attribute (.Constant (.str sep) _ _) at_ apos, [] => (match args with
    | [e] => if at_ = "join" ∧ isStar e = false ∧ (apos.endLine == cpos.line) = true then (d.E G e).map (mUn (fJoin sep)) else none
    | _ => none)
  | .Attribute o at_ apos, [] => (match args with
    | [e] => if at_ = "index" ∧ isStar e = false ∧ plainO o = true ∧ (apos.endLine == cpos.line) = true then (match d.E G o, d.E G e with
      | some mo, some me => some (mIdx mo me)
      | _, _ => none) else none
    | _ => none)
  | _, _ => none
def stepE (d : Den) (G : Gx) : Expr → Option (M Hd)
  | .Constant c _ _ => constE c
  | .Name x _ => nameE G x
  | .BinOp a op b _ => binE d G a op b
  | .UnaryOp op a _ => unE d G op a
  | .BoolOp op vs pos => boolE (d.E G) op vs pos
  | .Compare a ops bs _ => cmpE d G a ops bs
  | .IfExp c a b _ => ifE d G c a b
  | .Subscript a i _ => subE d G a i
  | .Tuple es _ _ => (denL (escF (d.E G)) es).map mTup
  | .List es _ => (denL (escF (d.E G)) es).map mLst
  | .ListComp elt gens scope _ => compE d G elt gens scope
  | .Call f args kws cpos => callE d G f args kws cpos
  | _ => none
def stepT (d : Den) (G : Gx) : Expr → Option (M Hd)
  | .UnaryOp .Not a _ => (d.T G a).map mNot
  | .UnaryOp _ _ _ => none
  | .BoolOp op vs pos => boolE (d.T G) op vs pos
  | .Compare a ops bs _ => cmpE d G a ops bs
  | .IfExp _ _ _ _ => none
  | e => stepE d G e
def iterE (d : Den) (G : Gx) (tg : Expr) (x : Str) (args : List Expr) : Option (M (List D)) :=
  if x = "range" then (match args with
    | [a] => (denL (escF (d.E G)) [a]).map (mWalk fRange1)
    | [a, b] => (denL (escF (d.E G)) [a, b]).map (mWalk fRange2)
    | [a, b, c] => (denL (escF (d.E G)) [a, b, c]).map (mWalk fRange3)
    | _ => none)
  else if x = "zip" then (match tg, args with
    | .Tuple _ _ _, [a, b] => (denL (escF (d.E G)) [a, b]).map (mWalk fZip)
    | _, _ => none)
  else if x = "enumerate" then (match tg, args with
    | .Tuple _ _ _, [a] => (denL (escF (d.E G)) [a]).map (mWalk fEnum)
    | _, _ => none)
  else none
def iterBlt (G : Gx) : Expr → Option (Str × List Expr)
  | .Call (.Name x _) args [] _ => (match glob G x with
    | some .blt => if x = "range" ∨ x = "zip" ∨ x = "enumerate" then some (x, args) else none
    | _ => none)
  | _ => none
def stepI (d : Den) (G : Gx) (tg e : Expr) : Option (M (List D)) := match iterBlt G e with
  | some (x, args) => iterE d G tg x args
  | none => (d.E G e).map mSeq
def Den.step (d : Den) : Den := ⟨stepE d, stepT d, stepI d⟩
def den : Nat → Den
  | 0 => ⟨fun _ _ => none, fun _ _ => none, fun _ _ _ => none⟩
  | n + 1 => (den n).step
end Pu
set_option Elab.async false
set_option linter.all false
set_option maxRecDepth 100000
set_option maxHeartbeats 2000000
/-! Pu15: the pure layer: what is read off the text is what it does (expressions). -/
namespace Pu
open PySem L2 PyProof.Rows
section
variable {w : Wi} {X : Cx} {G : Gx} {d : Den} {m : M Hd}
theorem constE_ok {c : Const} {k : Nat} {p : Pos} (h : constE c = some m) : PE X (.Constant c k p) (tK w m) := by
  cases c <;> first | (cases h; done) | skip
  all_goals simp only [constE] at h
  · cases h; exact se_non
  · cases h; exact se_bl
  · cases h; exact se_int
  · cases h; exact se_str
theorem nameE_ok (c : CxP w X G) {x : Str} {p : Pos} (h : nameE G x = some m) : PE X (.Name x p) (tK w m) := by
  unfold nameE at h
  split at h
  · rename_i ho
    obtain ⟨h1, h2, h3⟩ := okName_of ho
    split at h
    · rename_i i e
      cases h
      obtain ⟨g1, g2⟩ := slotE_some c e
      exact se_var g1 g2 h1 h2
    · split at h
      · rename_i d' e
        cases h
        obtain ⟨g1, ⟨_, _, u, v, g2, g3, g4⟩, _⟩ := glob_some c e
        exact se_glob g1 g2 g3 h1 (c.kd ▸ g4)
      · cases h
  · cases h
theorem binE_ok (D : DenOk d) (c : CxP w X G) {a b : Expr} {op : Operator} {p : Pos} (h : binE d G a op b = some m) : PE X (.BinOp a op b p) (tK w m) := by
  unfold binE at h
  split at h
  · rename_i f ma mb e1 e2 e3
    cases h
    obtain ⟨r, h1, h2⟩ := binF_ok c.kd e1
    exact se_bin h1 h2 (D.E c e2) (D.E c e3)
  · cases h
theorem unE_ok (D : DenOk d) (c : CxP w X G) {a : Expr} {op : UnaryOp} {p : Pos} (h : unE d G op a = some m) : PE X (.UnaryOp op a p) (tK w m) := by
  cases op with
  | USub =>
    obtain ⟨ma, e, rfl⟩ := Option.map_eq_some_iff.mp (show (d.E G a).map (mUn fNeg) = some m from h)
    exact se_neg (D.E c e)
  | Not =>
    obtain ⟨ma, e, rfl⟩ := Option.map_eq_some_iff.mp (show (d.E G a).map mNot = some m from h)
    exact se_not (D.E c e)
  | _ => cases h
theorem boolE_ok (D : DenOk d) (c : CxP w X G) {op : BoolOp} {vs : List Expr} {p : Pos} (h : boolE (d.E G) op vs p = some m) : PE X (.BoolOp op vs p) (tK w m) := by
  unfold boolE at h
  split at h
  · cases h
  · exact pe_one (D.E c h)
  · split at h
    · rename_i ma mb e1 e2
      cases op with
      | And => cases h; exact se_and (D.E c e1) (D.E c e2)
      | Or => cases h; exact se_or (D.E c e1) (D.E c e2)
    · cases h
theorem pw_of {op : BoolOp} {vs : List Expr} {p : Pos} {t : TT} (h : PT X (.BoolOp op vs p) t) : PW X (.BoolOp op vs p) t := ⟨fun wh pins s σ H Q I q => h.run pins s σ H Q I q⟩
theorem boolT_ok (D : DenOk d) (c : CxP w X G) {op : BoolOp} {vs : List Expr} {p : Pos} (h : boolE (d.T G) op vs p = some m) : PT X (.BoolOp op vs p) (tT w m) := by
  unfold boolE at h
  split at h
  · cases h
  · cases op with
    | And => exact (pw_and1 (D.T c h)).pt
    | Or => exact (pw_or1 (D.T c h)).pt
  · split at h
    · rename_i ma mb e1 e2
      cases op with
      | And => cases h; exact (sw_and (D.T c e1) (pw_of (D.T c e2))).pt
      | Or => cases h; exact (sw_or (D.T c e1) (pw_of (D.T c e2))).pt
    · cases h
theorem cmpE_ok (D : DenOk d) (c : CxP w X G) {a : Expr} {ops : List CmpOp} {bs : List Expr} {p : Pos} (h : cmpE d G a ops bs = some m) : PE X (.Compare a ops bs p) (tK w m) ∧ PT X (.Compare a ops bs p) (tT w m) := by
  unfold cmpE at h
  split at h
  · split at h
    · cases h
    · rename_i hm
      split at h
      · rename_i ma mb e1 e2
        cases h
        obtain ⟨r, h1, h2⟩ := cmpF_ok (w := w) c.kd c.un _
        exact ⟨se_cmp h1 h2 (D.E c e1) (D.E c e2) (by simpa using hm), st_cmp h1 h2 (D.E c e1) (D.E c e2) (by simpa using hm)⟩
      · cases h
  · split at h
    · cases h
    · rename_i hm
      split at h
      · rename_i ma mb mc e1 e2 e3
        cases h
        obtain ⟨r, h1, h2⟩ := cmpF_ok (w := w) c.kd c.un _
        obtain ⟨r', h3, h4⟩ := cmpF_ok (w := w) c.kd c.un _
        exact ⟨se_chain h1 h2 h3 h4 (D.E c e1) (D.E c e2) (D.E c e3) (by simpa using hm), st_chain h1 h2 h3 h4 (D.E c e1) (D.E c e2) (D.E c e3) (by simpa using hm)⟩
      · cases h
  · cases h
theorem ifE_ok (D : DenOk d) (c : CxP w X G) {t a b : Expr} {p : Pos} (h : ifE d G t a b = some m) : PE X (.IfExp t a b p) (tK w m) := by
  unfold ifE at h
  split at h
  · rename_i mc ma mb e1 e2 e3
    cases h
    exact se_if (D.T c e1) (D.E c e2) (D.E c e3)
  · cases h
theorem denO_ok (D : DenOk d) (c : CxP w X G) {o : Option Expr} {mo : M (Option Int)} (h : denO (d.E G) o = some mo) : PO X o (tO w mo) := by
  cases o with
  | none => cases h; exact so_none
  | some e =>
    obtain ⟨ma, e1, rfl⟩ := Option.map_eq_some_iff.mp (show (d.E G e).map (fun m => optM (some m)) = some mo from h)
    exact so_some (D.E c e1)
theorem isM1_of {e : Expr} (h : isM1 e = true) : ∃ k p1 p2, e = .UnaryOp .USub (.Constant (.int 1) k p1) p2 := by
  unfold isM1 at h
  split at h
  · rename_i i k p1 p2
    have : i = 1 := by simpa using h
    subst this
    exact ⟨_, _, _, rfl⟩
  · cases h
theorem subE_ok (D : DenOk d) (c : CxP w X G) {a i : Expr} {p : Pos} (h : subE d G a i = some m) : PE X (.Subscript a i p) (tK w m) := by
  unfold subE at h
  split at h
  · split at h
    · rename_i ma ml mh e1 e2 e3
      cases h
      exact se_cut c.kd (D.E c e1) (denO_ok D c e2) (denO_ok D c e3)
    · cases h
  · split at h
    · rename_i hm
      obtain ⟨k, p1, p2, rfl⟩ := isM1_of hm
      obtain ⟨ma, e, rfl⟩ := Option.map_eq_some_iff.mp h
      exact se_back c.kd (D.E c e)
    · cases h
  · cases h
  · rename_i n1 n2 n3
    split at h
    · rename_i ma mi e1 e2
      cases h
      refine se_item c.kd (D.E c e1) (D.E c e2) fun o u => ?_
      cases i <;> first | rfl | exact absurd rfl (n3 _ _ _ _)
    · cases h
end
end Pu
set_option Elab.async false
set_option linter.all false
set_option maxRecDepth 100000
set_option maxHeartbeats 2000000
/-! Pu16: the pure layer: what is read off the text is what it does (comprehensions, calls, iterables). -/
namespace Pu
open PySem L2 PyProof.Rows
section
variable {w : Wi} {X : Cx} {G : Gx} {d : Den} {m : M Hd}
theorem escF_ok (D : DenOk d) (c : CxP w X G) {e : Expr} (h : escF (d.E G) e = some m) : PE X e (tK w m) := by
  obtain ⟨ma, e1, rfl⟩ := Option.map_eq_some_iff.mp h
  exact se_esc (D.E c e1)
theorem notSet {iter : Expr} (h : isSet iter = false) (env : Env) (x : Value) : foldedSetIterable iter env x = pure x := by
  cases iter <;> first | rfl | cases h
theorem ifs_ok (D : DenOk d) (c : CxP w X G) {ifs : List Expr} (h : denIfs d G ifs = some m) : PTs X ifs (tT w m) := by
  unfold denIfs at h
  split at h
  · cases h; exact sts_nil
  · exact sts_one (D.T c h)
  · cases h
theorem comp_facts (D : DenOk d) (c : CxP w X G) {elt : Expr} {gens : List Comprehension} {scope : Scope} (h : compE1 d G elt gens scope = some m) :
    ∃ tg iter ifs mi t mc me, gens = [⟨tg, iter, ifs, 0⟩] ∧ m = mComp ((ownE G scope).map (·.2)) mi t mc me ∧ PI X tg iter (tI w mi) ∧ BlkOk X.N X.env.scope scope (ownE G scope) ∧ (∀ i ∈ t.slots, i ∈ (ownE G scope).map (·.2)) ∧
    (∀ (s : Shared) (H : Hp) (C : Addr) (cl : List (Str × Addr)) (fp : List Addr), PG (X.blk s H scope (compEnvC scope cl C X.env) fp) tg (tG w.blk t)) ∧
    (∀ (s : Shared) (H : Hp) (C : Addr) (cl : List (Str × Addr)) (fp : List Addr), PTs (X.blk s H scope (compEnvC scope cl C X.env) fp) ifs (tT w.blk mc)) ∧
    (∀ (s : Shared) (H : Hp) (C : Addr) (cl : List (Str × Addr)) (fp : List Addr), PE (X.blk s H scope (compEnvC scope cl C X.env) fp) elt (tK w.blk me)) ∧ (∀ x, foldedSetIterable iter X.env x = pure x) := by
  unfold compE1 at h
  split at h
  · rename_i tg iter ifs a
    split at h
    · rename_i h0
      obtain ⟨h1, h2, h3⟩ := h0
      split at h
      · rename_i mi t mc me e1 e2 e3 e4
        split at h
        · rename_i ha
          cases h
          subst h1
          refine ⟨tg, iter, ifs, mi, t, mc, me, rfl, rfl, D.I c e1, ?_, fun i hi => ?_, fun s H C cl fp => denG_ok (c.blk scope s H C cl fp) e2, fun s H C cl fp => ifs_ok D (c.blk scope s H C cl fp) e3, fun s H C cl fp => D.E (c.blk scope s H C cl fp) e4, notSet h2 _⟩
          · rw [c.nn, c.sc]
            exact blkOk_by h3
          · have z := List.all_eq_true.mp ha i hi
            simpa using z
        · cases h
      · cases h
    · cases h
  · cases h
theorem compO_facts (D : DenOk d) (c : CxP w X G) {elt : Expr} {gens : List Comprehension} {scope : Scope} (h : compEO d G elt gens scope = some m) :
    ∃ tg x px ifs j t mc me, gens = [⟨tg, .Name x px, ifs, 0⟩] ∧ m = mCompO j ((ownE G scope).map (·.2)) t mc me ∧ X.N[j]? = some x ∧ Vis X.env.scope x ∧ (x == ("__debug__" : Str)) = false ∧ (x == ("__classdict__" : Str)) = false ∧ BlkOk X.N X.env.scope scope (ownE G scope) ∧ (∀ i ∈ t.slots, i ∈ (ownE G scope).map (·.2)) ∧
    (∀ (s : Shared) (H : Hp) (C : Addr) (cl : List (Str × Addr)) (fp : List Addr), PG (X.blk s H scope (compEnvC scope cl C X.env) fp) tg (tG w.blk t)) ∧
    (∀ (s : Shared) (H : Hp) (C : Addr) (cl : List (Str × Addr)) (fp : List Addr), PTs (X.blk s H scope (compEnvC scope cl C X.env) fp) ifs (tT w.blk mc)) ∧
    (∀ (s : Shared) (H : Hp) (C : Addr) (cl : List (Str × Addr)) (fp : List Addr), PE (X.blk s H scope (compEnvC scope cl C X.env) fp) elt (tK w.blk me)) := by
  unfold compEO at h
  split at h
  · rename_i tg x px ifs a
    split at h
    · rename_i h0
      obtain ⟨_, ho, h1, h3⟩ := h0
      obtain ⟨k1, k2, _⟩ := okName_of ho
      split at h
      · rename_i j t mc me e1 e2 e3 e4
        split at h
        · rename_i ha
          cases h
          subst h1
          obtain ⟨g1, g2⟩ := slotE_some c e1
          refine ⟨tg, x, px, ifs, j, t, mc, me, rfl, rfl, g1, g2, k1, k2, ?_, fun i hi => ?_, fun s H C cl fp => denG_ok (c.blk scope s H C cl fp) e2, fun s H C cl fp => ifs_ok D (c.blk scope s H C cl fp) e3, fun s H C cl fp => D.E (c.blk scope s H C cl fp) e4⟩
          · rw [c.nn, c.sc]
            exact blkOk_by h3
          · have z := List.all_eq_true.mp ha i hi
            simpa using z
        · cases h
      · cases h
    · cases h
  · cases h
theorem fnNs_ok (c : CxP w X G) : ∀ {es : List Expr} {fs : List Str}, fnNs G es = some fs → FnNs X es fs
  | [], fs, h => by cases h; exact .nil
  | e :: es, fs, h => by
    unfold fnNs at h
    split at h
    · rename_i h0
      cases h0
    · rename_i x p es' h0
      cases h0
      split at h
      · rename_i n pf fs' e1 e2
        cases h
        obtain ⟨g1, ⟨k, hr, f, fd, ps, hl, hF, hm, hk, hb, hf⟩, g3⟩ := glob_some c e1
        subst hf
        exact .cons g1 hm (okName_of g3).1 (fnNs_ok c e2)
      · cases h
    · cases h
theorem fnNs_len : ∀ {es : List Expr} {fs : List Str}, fnNs G es = some fs → fs.length = es.length
  | [], fs, h => by cases h; rfl
  | e :: es, fs, h => by
    unfold fnNs at h
    split at h
    · rename_i h0
      cases h0
    · rename_i x p es' h0
      cases h0
      split at h
      · rename_i n pf fs' e1 e2
        cases h
        rw [List.length_cons, List.length_cons, fnNs_len e2]
      · cases h
    · cases h
theorem compF_facts (D : DenOk d) (c : CxP w X G) {elt : Expr} {gens : List Comprehension} {scope : Scope} (h : compEF d G elt gens scope = some m) :
    ∃ y py es k tp ifs i fs mc me, gens = [⟨.Name y py, .Tuple es k tp, ifs, 0⟩] ∧ m = mCompF i ((ownE G scope).map (·.2)) fs mc me ∧ FnNs X es fs ∧ fs.length ≤ 1000 ∧ BlkOk X.N X.env.scope scope (ownE G scope) ∧ i ∈ (ownE G scope).map (·.2) ∧
    (∀ (s : Shared) (H : Hp) (C : Addr) (cl : List (Str × Addr)) (fp : List Addr), PG (X.blk s H scope (compEnvC scope cl C X.env) fp) (.Name y py) (gName i)) ∧
    (∀ (s : Shared) (H : Hp) (C : Addr) (cl : List (Str × Addr)) (fp : List Addr), PTs (X.blk s H scope (compEnvC scope cl C X.env) fp) ifs (tT w.blk mc)) ∧
    (∀ (s : Shared) (H : Hp) (C : Addr) (cl : List (Str × Addr)) (fp : List Addr), PE (X.blk s H scope (compEnvC scope cl C X.env) fp) elt (tK w.blk me)) := by
  unfold compEF at h
  split at h
  · rename_i y py es k tp ifs a
    split at h
    · rename_i h0
      obtain ⟨h1, h3, h4⟩ := h0
      split at h
      · rename_i i f fs mc me e1 e2 e3 e4
        split at h
        · rename_i ha
          cases h
          subst h1
          refine ⟨y, py, es, k, tp, ifs, i, f :: fs, mc, me, rfl, rfl, fnNs_ok c e2, by rw [fnNs_len e2]; exact h4, by rw [c.nn, c.sc]; exact blkOk_by h3, by simpa using ha, fun s H C cl fp => ?_, fun s H C cl fp => ifs_ok D (c.blk scope s H C cl fp) e3, fun s H C cl fp => D.E (c.blk scope s H C cl fp) e4⟩
          obtain ⟨g1, g2, g3⟩ := slotS_some (c.blk scope s H C cl fp) e1
          exact pg_name (c.blk scope s H C cl fp).nd g1 g2 g3
        · cases h
      · cases h
    · cases h
  · cases h
theorem comp2_facts (D : DenOk d) (c : CxP w X G) {elt : Expr} {gens : List Comprehension} {scope : Scope} (h : compE2 d G elt gens scope = some m) :
    ∃ tg iter ifs mi t mc tg1 iter1 ifs1 mi1 t1 mc1 me, gens = [⟨tg, iter, ifs, 0⟩, ⟨tg1, iter1, ifs1, 0⟩] ∧ m = mComp2 ((ownE G scope).map (·.2)) t1.slots mi t mc mi1 t1 mc1 me ∧ PI X tg iter (tI w mi) ∧ BlkOk X.N X.env.scope scope (ownE G scope) ∧ (∀ i ∈ t.slots, i ∈ (ownE G scope).map (·.2)) ∧ (∀ i ∈ t1.slots, i ∈ (ownE G scope).map (·.2)) ∧
    (∀ (s : Shared) (H : Hp) (C : Addr) (cl : List (Str × Addr)) (fp : List Addr), PG (X.blk s H scope (compEnvC scope cl C X.env) fp) tg (tG w.blk t)) ∧
    (∀ (s : Shared) (H : Hp) (C : Addr) (cl : List (Str × Addr)) (fp : List Addr), PTs (X.blk s H scope (compEnvC scope cl C X.env) fp) ifs (tT w.blk mc)) ∧
    (∀ (s : Shared) (H : Hp) (C : Addr) (cl : List (Str × Addr)) (fp : List Addr), PI (X.blk s H scope (compEnvC scope cl C X.env) fp) tg1 iter1 (tI w.blk mi1)) ∧
    (∀ (s : Shared) (H : Hp) (C : Addr) (cl : List (Str × Addr)) (fp : List Addr), PG (X.blk s H scope (compEnvC scope cl C X.env) fp) tg1 (tG w.blk t1)) ∧
    (∀ (s : Shared) (H : Hp) (C : Addr) (cl : List (Str × Addr)) (fp : List Addr), PTs (X.blk s H scope (compEnvC scope cl C X.env) fp) ifs1 (tT w.blk mc1)) ∧
    (∀ (s : Shared) (H : Hp) (C : Addr) (cl : List (Str × Addr)) (fp : List Addr), PE (X.blk s H scope (compEnvC scope cl C X.env) fp) elt (tK w.blk me)) ∧ (∀ x, foldedSetIterable iter X.env x = pure x) ∧ (∀ env x, foldedSetIterable iter1 env x = pure x) := by
  unfold compE2 at h
  split at h
  · rename_i tg iter ifs a tg1 iter1 ifs1 a1
    split at h
    · rename_i h0
      obtain ⟨h1, h1', h2, h2', h3⟩ := h0
      split at h
      · rename_i mi t mc mi1 t1 mc1 me e1 e2 e3 e4 e5 e6 e7
        split at h
        · rename_i ha
          cases h
          subst h1; subst h1'
          have inn : ∀ {vs : List Nat}, slotsIn vs (ownE G scope) = true → ∀ i ∈ vs, i ∈ (ownE G scope).map (·.2) := fun {vs} hh i hi => by
            have z := List.all_eq_true.mp hh i hi
            simpa using z
          exact ⟨tg, iter, ifs, mi, t, mc, tg1, iter1, ifs1, mi1, t1, mc1, me, rfl, rfl, D.I c e1, by rw [c.nn, c.sc]; exact blkOk_by h3, inn ha.1, inn ha.2, fun s H C cl fp => denG_ok (c.blk scope s H C cl fp) e2, fun s H C cl fp => ifs_ok D (c.blk scope s H C cl fp) e3, fun s H C cl fp => D.I (c.blk scope s H C cl fp) e4,
            fun s H C cl fp => denG_ok (c.blk scope s H C cl fp) e5, fun s H C cl fp => ifs_ok D (c.blk scope s H C cl fp) e6, fun s H C cl fp => D.E (c.blk scope s H C cl fp) e7, notSet h2 _, fun env => notSet h2' env⟩
        · cases h
      · cases h
    · cases h
  · cases h
theorem compE_ok (D : DenOk d) (c : CxP w X G) {elt : Expr} {gens : List Comprehension} {scope : Scope} {p : Pos} (h : compE d G elt gens scope = some m) : PE X (.ListComp elt gens scope p) (tK w m) := by
  unfold compE at h
  split at h
  · split at h
    · rename_i m' ef
      cases h
      obtain ⟨y, py, es, k, tp, ifs, i, fs, mc, me, e, rfl, h1, h2, h3, h4, h5, h6, h7⟩ := compF_facts D c ef
      rw [e]
      exact se_lcF c.kd c.calm c.nd h1 h2 h3 h4 h5 h6 h7
    split at h
    · rename_i m' eo
      cases h
      obtain ⟨tg, x, px, ifs, j, t, mc, me, e, rfl, h1, h2, h3, h4, h5, h6, h7, h8, h9⟩ := compO_facts D c eo
      rw [e]
      exact se_lcO c.kd h1 h2 h3 h4 c.calm c.nd h5 h6 h7 h8 h9 (notSet rfl _)
    · obtain ⟨tg, iter, ifs, mi, t, mc, me, e, rfl, h1, h2, h3, h4, h5, h6, h7⟩ := comp_facts D c h
      rw [e]
      exact se_lc c.calm c.nd h1 h2 h3 h4 h5 h6 h7
  · obtain ⟨tg, iter, ifs, mi, t, mc, tg1, iter1, ifs1, mi1, t1, mc1, me, e, rfl, h1, h2, h3, h4, h5, h6, h7, h8, h9, h10, h11, h12⟩ := comp2_facts D c h
    rw [e]
    exact se_lc2 c.calm c.nd h1 h2 h3 h4 h5 h6 h7 h8 h9 h10 h11 h12
theorem argF_ok (D : DenOk d) (c : CxP w X G) {raw : Bool} {e : Expr} (h : argF d G raw e = some m) : PE X e (tK w m) := by
  unfold argF at h
  split at h
  · exact D.E c h
  · obtain ⟨ma, e1, rfl⟩ := Option.map_eq_some_iff.mp h
    exact se_esc (D.E c e1)
theorem denAs_cons {io : Option Nat} {j : Nat} {e : Expr} {es : List Expr} {ms : List (M Hd)} (h : denAs d G io j (e :: es) = some ms) : ∃ m ms', ms = m :: ms' ∧ isStar e = false ∧ argF d G (io == some j) e = some m ∧ denAs d G io (j + 1) es = some ms' := by
  unfold denAs at h
  split at h
  · cases h
  · rename_i hs
    split at h
    · rename_i m ms' e1 e2
      cases h
      exact ⟨m, ms', rfl, by simpa using hs, e1, e2⟩
    · cases h
theorem denAs_any {io : Option Nat} {pos : Pos} {env : Env} : ∀ {es : List Expr} {j : Nat} {ms : List (M Hd)}, denAs d G io j es = some ms → (backTo pos (starEach es env)).any (·.1) = false
  | [], _, _, _ => rfl
  | e :: es, j, ms, h => by
    obtain ⟨m, ms', _, hs, _, h2⟩ := denAs_cons h
    rw [star_cons hs]
    have ih := denAs_any (pos := pos) (env := env) h2
    unfold backTo at ih ⊢
    rw [List.map_cons, List.any_cons, ih]
    rfl
theorem denAs_pa (D : DenOk d) (c : CxP w X G) {io : Option Nat} : ∀ {es : List Expr} {j : Nat} {ms : List (M Hd)}, denAs d G io j es = some ms → PA X es (tA w (mArgs ms))
  | [], _, ms, h => by cases h; exact sa_nil
  | e :: es, j, ms, h => by
    obtain ⟨m, ms', rfl, hs, h1, h2⟩ := denAs_cons h
    exact sa_cons (argF_ok D c h1) (denAs_pa D c h2) (star_cons hs)
theorem isaE_ok (D : DenOk d) (c : CxP w X G) {args : List Expr} {p pos : Pos} (g : Gl X "isinstance" ∧ X.mg "isinstance" = none) (h : isaE d G args = some m) : PE X (.Call (.Name "isinstance" p) args [] pos) (tK w m) := by
  unfold isaE at h
  split at h
  · split at h
    · cases h
    · rename_i a T p2 hs
      have hs : isStar a = false := by simpa using hs
      split at h
      · rename_i m' e1 e2
        obtain ⟨g1, ⟨_, _, g2⟩, g3⟩ := glob_some c e1
        have g2 : X.mg T = none := g2
        obtain ⟨k1, k2, k3⟩ := okName_of g3
        have hA := D.E c e2
        have fin : ∀ (t : String), bootBuiltins T = some (.type t) → PE X (.Call (.Name "isinstance" p) [a, .Name T p2] [] pos) (tK w (mUn (fIsa t) m')) := fun t hv => se_isa c.kd g.1 g.2 g1 g2 hv k3 k1 hA (star_cons hs)
        rcases ite_some h with ⟨e, h⟩ | ⟨_, h⟩
        · cases h; exact fin _ (by rw [e]; exact boot_int)
        rcases ite_some h with ⟨e, h⟩ | ⟨_, h⟩
        · cases h; exact fin _ (by rw [e]; exact boot_bool)
        rcases ite_some h with ⟨e, h⟩ | ⟨_, h⟩
        · cases h; exact fin _ (by rw [e]; exact boot_str)
        rcases ite_some h with ⟨e, h⟩ | ⟨_, h⟩
        · cases h; exact fin _ (by rw [e]; exact boot_tuple)
        rcases ite_some h with ⟨e, h⟩ | ⟨_, h⟩
        · cases h; exact fin _ (by rw [e]; exact boot_list)
        rcases ite_some h with ⟨e, h⟩ | ⟨_, h⟩
        · cases h; exact fin _ (by rw [e]; exact boot_dict)
        cases h
      · cases h
  · cases h
theorem rangeOf_some (c : CxP w X G) {args as : List Expr} (h : rangeOf G args = some as) : ∃ p2 pos2, args = [.Call (.Name "range" p2) as [] pos2] ∧ Gl X "range" ∧ X.mg "range" = none := by
  unfold rangeOf at h
  split at h
  · split at h
    · rename_i e
      rcases ite_some h with ⟨e2, h⟩ | ⟨_, h⟩
      · cases h
        subst e2
        obtain ⟨g1, ⟨_, _, g2⟩, _⟩ := glob_some c e
        exact ⟨_, _, rfl, g1, g2⟩
      · cases h
    · cases h
  · cases h
theorem rngE_ok (D : DenOk d) (c : CxP w X G) {isL : Bool} {as : List Expr} {p p2 pos pos2 : Pos} {x : Str} (hx : x = if isL = true then ("list" : Str) else ("tuple" : Str)) (g : Gl X x ∧ X.mg x = none) (g2 : Gl X "range" ∧ X.mg "range" = none) (h : rngE d G isL as = some m) :
    PE X (.Call (.Name x p) [.Call (.Name "range" p2) as [] pos2] [] pos) (tK w m) := by
  unfold rngE at h
  split at h
  · rename_i a
    split at h
    · cases h
    · rename_i hs
      have hs : isStar a = false := by simpa using hs
      obtain ⟨ma, e1, rfl⟩ := Option.map_eq_some_iff.mp h
      cases isL with
      | true => subst hx; exact se_rl1 c.calm g.1 g.2 g2.1 g2.2 (D.E c e1) (star_cons hs)
      | false => subst hx; exact se_rt1 c.kd c.calm g.1 g.2 g2.1 g2.2 (D.E c e1) (star_cons hs)
  · rename_i a b
    split at h
    · cases h
    · split at h
      · cases h
      · rename_i hs hs2
        have hs : isStar a = false := by simpa using hs
        have hs2 : isStar b = false := by simpa using hs2
        split at h
        · rename_i ma mb e1 e2
          cases h
          have h3 : (backTo pos2 (starEach [b] X.env)).any (·.1) = false := by rw [star_cons hs2]; rfl
          cases isL with
          | true => subst hx; exact se_rl2 c.calm g.1 g.2 g2.1 g2.2 (D.E c e1) (D.E c e2) (star_cons hs) (star_cons hs2) h3
          | false => subst hx; exact se_rt2 c.calm g.1 g.2 g2.1 g2.2 (D.E c e1) (D.E c e2) (star_cons hs) (star_cons hs2) h3
        · cases h
  · cases h
theorem primE_ok (D : DenOk d) (c : CxP w X G) {x : Str} {args : List Expr} {p pos : Pos} (g : Gl X x ∧ X.mg x = none) (ho : okName x = true) (h : primE d G x args = some m) : PE X (.Call (.Name x p) args [] pos) (tK w m) := by
  unfold primE at h
  split at h
  · cases h
  · split at h
    · rename_i e es f ms e1 e2
      cases h
      obtain ⟨k1, k2, k3⟩ := okName_of ho
      obtain ⟨m', ms', _, hs, _, h2⟩ := denL_cons e2
      obtain ⟨r, h1, hh⟩ := bltF_ok c.kd c.calm c.un e1
      have hA := denL_pa (fun e m => D.E c (e := e) (m := m)) e2
      rcases hh with ⟨id, hc, hb⟩ | ⟨id, hc, hb⟩
      · exact se_callB hc h1 g.1 g.2 hb hA k3 k1 (star_cons hs) (denL_any h2)
      · exact se_callTy hc h1 g.1 g.2 hb hA k3 k1 (star_cons hs) (denL_any h2)
    · cases h
theorem bltE_ok (D : DenOk d) (c : CxP w X G) {x : Str} {args : List Expr} {p pos : Pos} (g : Gl X x ∧ X.mg x = none) (ho : okName x = true) (h : bltE d G x args = some m) : PE X (.Call (.Name x p) args [] pos) (tK w m) := by
  rcases ite_some h with ⟨e, k⟩ | ⟨_, k⟩
  · subst e; exact isaE_ok D c g k
  · cases e : rangeOf G args with
    | some as =>
      rw [e] at k
      obtain ⟨p2, pos2, e3, g2, g3⟩ := rangeOf_some c e
      rw [e3]
      rcases ite_some k with ⟨e2, k2⟩ | ⟨_, k2⟩
      · exact rngE_ok D c (isL := true) e2 g ⟨g2, g3⟩ k2
      rcases ite_some k2 with ⟨e2, k3⟩ | ⟨_, k3⟩
      · exact rngE_ok D c (isL := false) e2 g ⟨g2, g3⟩ k3
      cases k3
    | none =>
      rw [e] at k
      exact primE_ok D c g ho k
theorem fnE_ok (D : DenOk d) (c : CxP w X G) {n : Nat} {io : Option Nat} {pf : PF} {x : Str} {args : List Expr} {p pos : Pos} (hg : Gl X x) (g : ∃ k, Room k X.A ∧ GvK X.prog X.w X.K X.mg X.base w.XR k x (.fn n io pf)) (ho : okName x = true) (h : fnE d G n io pf args = some m) : PE X (.Call (.Name x p) args [] pos) (tK w m) := by
  obtain ⟨k1, k2, k3⟩ := okName_of ho
  obtain ⟨k, hr, f, fd, ps, hl, hF, hm, hk, hb, _⟩ := g
  unfold fnE at h
  split at h
  · rcases ite_some h with ⟨e, h⟩ | ⟨_, h⟩
    · cases h
      subst e
      cases ps with
      | nil => exact se_call0 c.kd hF hr hg hm hk hb c.tk k1
      | cons _ _ => cases hl
    · cases h
  · rename_i e es
    obtain ⟨ms, e1, rfl⟩ := Option.map_eq_some_iff.mp h
    obtain ⟨m', ms', _, hs, _, h2⟩ := denAs_cons e1
    subst hl
    exact se_call c.kd hF hr hg hm hk hb c.tk (denAs_pa D c e1) k1 (star_cons hs) (denAs_any h2)
/-- the state with a lambda made -/
theorem StpE.extN {K : PySem.W.Frag} {F H H1 : Hp} {ρ : Ev} {σ : L2.St} (S : St K F ρ σ H) (e : LamX.ExtN H H1) (t : LamX.Tabs (tabsK K) H1) : StpE K F ρ σ H F ρ H1 := by
  refine ⟨⟨S.len, fun b o h => e b o (S.le b o h) (S.nt b o h), fun i s h => ?_, S.inj, t, S.nt⟩, Sub.refl _, fun b o h n _ => e b o h n, fun b n => NO.sub (fun b o h t => e b o h t) n, fun b o h => .inl h, fun _ => SlLe.refl _⟩
  obtain ⟨v, ev, ok⟩ := S.slot i s h
  refine ⟨v, ev, ?_⟩
  cases s with
  | frz d => exact ok
  | obj d => exact ok
  | own xs =>
    obtain ⟨a, us, h1, h2, h3, h4⟩ := ok
    exact ⟨a, us, h1, e a _ h2 nt_lst, h3, h4⟩
  | io xs =>
    obtain ⟨a, us, h1, h2, h3, h4⟩ := ok
    exact ⟨a, us, h1, e a _ h2 nt_lst, h3, h4⟩
theorem telE_ok (D : DenOk d) (c : CxP w X G) {x ret : Str} {ht : Exn → Option PyData} {args : List Expr} {p pos : Pos} (hg : Gl X x) (g : TelOk X.prog X.w X.K X.mg X.base w.XR x ret ht) (ho : okName x = true) (h : telE d G ret ht args = some m) : PE X (.Call (.Name x p) args [] pos) (tK w m) := by
  obtain ⟨kd1, kd2, _⟩ := okName_of ho
  have kd := c.kd
  unfold telE at h
  split at h
  · rename_i params body scope lpos
    rcases ite_some h with ⟨⟨hl, hn, hs⟩, h⟩ | ⟨_, h⟩
    · obtain ⟨m', e, rfl⟩ := Option.map_eq_some_iff.mp h
      obtain ⟨k, hr, hgl⟩ := c.gk
      rw [hl] at hr
      obtain ⟨C, P, hcode, TB, hmT, hu⟩ := c.tb hl
      obtain ⟨gA, a, pg, bg, sg, dV, kV, doc, pm, an, cdv, ct, oc, od, osl, Ng, Ech, hm, hk, lk, hcg, hb, Sg, hNg, hva, da, dc, hG, hE⟩ := g
      have hp : params = ⟨[], [], none, [], [], none, []⟩ := by
        unfold noArgs at hn
        split at hn
        · rfl
        · cases hn
      subst hp
      have L : LamX.LamS X.env.scope scope := LamX.lamS_by (by rw [c.sc]; exact hs)
      refine PEimp (pe_lamN (T := tabsK X.K) (TT := fun tl H Q => tl (Ech Q) H fun _ H' => Q (.str ret) H') (t := fun E => tK { w with W := fun cls d _ H => E cls d H } m') hg hm hk lk hcg hb Sg hNg hva (hG X _ rfl rfl rfl rfl rfl) TB hcode hmT hu hr L rfl (fun _ _ _ _ _ => rfl)
        (fun A outer s H E f c' hr' => D.E (c.lam hgl scope A outer s H E f c' hr') e) kd1 da dc) fun σ H Q ⟨F, ρ, S, h⟩ => ?_
      refine ⟨kd ▸ S.tb, fun H1 eN T1 => ?_⟩
      have p0 : StpE w.K F ρ σ H F ρ H1 := StpE.extN S eN (kd ▸ T1)
      refine ⟨F, ρ, p0.st, ?_⟩
      unfold mTel at h
      cases e1 : m' ρ with
      | bad => rw [e1] at h; exact h.elim
      | ok k1 ρ1 =>
        rw [e1] at h
        intro F' H' p1 v hv
        exact h F' H' (p0.trans S p1) (.str ret) (Rp.str ret)
      | exc x1 ρ1 =>
        rw [e1] at h
        intro F' H' cls da1 p1 hx
        dsimp only at h
        split at h
        · rename_i d' ed
          refine hE x1 d' ed cls da1 F' H' Q hx p1.st.le (kd ▸ p1.st.tb) p1.st.nt fun v F2 H2 cs rv => ?_
          have p2 : StpE w.K F' ρ1 σ H' F2 ρ1 H2 := p1.st.called (B := fun _ => False) cs.le cs.hle (fun b o h t _ => cs.keep b o h t fun ⟨i, s, z, _⟩ => by simp at z) (kd ▸ cs.tb) cs.dom cs.new cs.nt (fun b z => z.elim) rfl (fun k s h => .inl ⟨h, fun _ _ _ z => z⟩) fun k => SlLe.refl _
          exact h F2 H2 ((p0.trans S p1).trans S p2) v (kd ▸ rv)
        · exact h.elim
    · cases h
  · cases h
theorem plainO_base {o : Expr} (h : plainO o = true) {n : Str} {env : Env} {x : Sem Value} : attributeBase o n env x = x := by
  cases o <;> first | rfl | cases h
theorem callvE_ok (D : DenOk d) (c : CxP w X G) {x : Str} {args : List Expr} {p pos : Pos} (h : callvE d G x args = some m) : PE X (.Call (.Name x p) args [] pos) (tK w m) := by
  unfold callvE at h
  split at h
  · rename_i i e es e0
    split at h
    · rename_i ho
      obtain ⟨k1, k2, _⟩ := okName_of ho
      obtain ⟨ms, e1, rfl⟩ := Option.map_eq_some_iff.mp h
      obtain ⟨m', ms', _, hs, _, h2⟩ := denAs_cons e1
      obtain ⟨g1, g2⟩ := slotE_some c e0
      obtain ⟨k, hr, hg⟩ := c.gk
      refine se_callV c.kd (room_le hr) g1 g2 k1 k2 (fun f q hq => ?_) c.tk (denAs_pa D c e1) (star_cons hs) (denAs_any h2)
      unfold tabF at hq
      split at hq
      · rename_i n pf el
        cases hq
        obtain ⟨a, fd, ps, hl, hF, hm, hk, hb, rfl⟩ := hg _ _ el
        exact ⟨fd, ps, hl, hF, hk, hb⟩
      · cases hq
    · cases h
  · cases h
theorem callE_ok (D : DenOk d) (c : CxP w X G) {f : Expr} {args : List Expr} {kws : List Keyword} {pos : Pos} (h : callE d G f args kws pos = some m) : PE X (.Call f args kws pos) (tK w m) := by
  unfold callE at h
  split at h
  · split at h
    · rename_i e
      obtain ⟨g1, g2, g3⟩ := glob_some c e
      exact fnE_ok D c g1 g2 g3 h
    · rename_i e
      obtain ⟨g1, ⟨_, _, g2⟩, g3⟩ := glob_some c e
      exact bltE_ok D c ⟨g1, g2⟩ g3 h
    · rename_i e
      obtain ⟨g1, ⟨_, _, g2⟩, g3⟩ := glob_some c e
      exact telE_ok D c g1 g2 g3 h
    · exact callvE_ok D c h
    · cases h
  · split at h
    · rcases ite_some h with ⟨⟨h1, h2, h3⟩, k⟩ | ⟨_, k⟩
      · subst h1
        obtain ⟨ma, e1, rfl⟩ := Option.map_eq_some_iff.mp k
        exact se_join c.kd (D.E c e1) (star_cons h2) h3
      · cases k
    · cases h
  · split at h
    · rcases ite_some h with ⟨⟨h1, h2, h3, h4⟩, k⟩ | ⟨_, k⟩
      · subst h1
        split at k
        · rename_i mo me e1 e2
          cases k
          exact se_idx c.kd c.un (D.E c e1) (D.E c e2) (star_cons h2) (plainO_base h3) h4
        · cases k
      · cases k
    · cases h
  · cases h
theorem stepE_ok (D : DenOk d) (c : CxP w X G) {e : Expr} (h : stepE d G e = some m) : PE X e (tK w m) := by
  cases e with
  | Constant => exact constE_ok h
  | Name => exact nameE_ok c h
  | BinOp => exact binE_ok D c h
  | UnaryOp => exact unE_ok D c h
  | BoolOp => exact boolE_ok D c h
  | Compare => exact (cmpE_ok D c h).1
  | IfExp => exact ifE_ok D c h
  | Subscript => exact subE_ok D c h
  | Tuple es k p =>
    obtain ⟨ms, e1, rfl⟩ := Option.map_eq_some_iff.mp (show (denL (escF (d.E G)) es).map mTup = some m from h)
    exact se_tup (denL_pa (fun e m => escF_ok D c) e1)
  | List es p =>
    obtain ⟨ms, e1, rfl⟩ := Option.map_eq_some_iff.mp (show (denL (escF (d.E G)) es).map mLst = some m from h)
    exact se_lst (denL_pa (fun e m => escF_ok D c) e1)
  | ListComp => exact compE_ok D c h
  | Call => exact callE_ok D c h
  | _ => cases h
theorem stepT_ok (D : DenOk d) (c : CxP w X G) {e : Expr} (h : stepT d G e = some m) : PT X e (tT w m) := by
  cases e with
  | UnaryOp op a p =>
    cases op with
    | Not =>
      obtain ⟨ma, e1, rfl⟩ := Option.map_eq_some_iff.mp (show (d.T G a).map mNot = some m from h)
      exact st_not (D.T c e1)
    | _ => cases h
  | BoolOp => exact boolT_ok D c h
  | Compare => exact (cmpE_ok D c h).2
  | IfExp => cases h
  | Constant => exact st_val (stepE_ok D c h) fun _ => rfl
  | Name => exact st_val (stepE_ok D c h) fun _ => rfl
  | BinOp => exact st_val (stepE_ok D c h) fun _ => rfl
  | Subscript => exact st_val (stepE_ok D c h) fun _ => rfl
  | Tuple => exact st_val (stepE_ok D c h) fun _ => rfl
  | List => exact st_val (stepE_ok D c h) fun _ => rfl
  | ListComp => exact st_val (stepE_ok D c h) fun _ => rfl
  | Call => exact st_val (stepE_ok D c h) fun _ => rfl
  | _ => cases h
theorem iterR_ok (D : DenOk d) (c : CxP w X G) {tg : Expr} {args : List Expr} {p pos : Pos} {mi : M (List PyData)} (g : Gl X "range" ∧ X.mg "range" = none) (h : (match args with
    | [a] => (denL (escF (d.E G)) [a]).map (mWalk fRange1)
    | [a, b] => (denL (escF (d.E G)) [a, b]).map (mWalk fRange2)
    | [a, b, c] => (denL (escF (d.E G)) [a, b, c]).map (mWalk fRange3)
    | _ => none) = some mi) : PI X tg (.Call (.Name "range" p) args [] pos) (tI w mi) := by
  have pa : ∀ {es : List Expr} {ms : List (M Hd)}, denL (escF (d.E G)) es = some ms → PA X es (tA w (mArgs ms)) := fun e2 => denL_pa (fun e m => escF_ok D c) e2
  split at h
  · obtain ⟨ms, e1, rfl⟩ := Option.map_eq_some_iff.mp h
    obtain ⟨_, _, _, hs, _, _⟩ := denL_cons e1
    exact si_range1 g.1 g.2 (pa e1) (star_cons hs)
  · obtain ⟨ms, e1, rfl⟩ := Option.map_eq_some_iff.mp h
    obtain ⟨_, _, _, hs, _, h2⟩ := denL_cons e1
    obtain ⟨_, _, _, hs2, _, _⟩ := denL_cons h2
    exact si_range2 g.1 g.2 (pa e1) (by rw [star_cons hs, star_cons hs2]; rfl) (star_cons hs2)
  · obtain ⟨ms, e1, rfl⟩ := Option.map_eq_some_iff.mp h
    obtain ⟨_, _, _, hs, _, h2⟩ := denL_cons e1
    exact si_range3 g.1 g.2 (pa e1) (star_cons hs) (denL_any h2)
  · cases h
theorem iterZ_ok (D : DenOk d) (c : CxP w X G) {tg : Expr} {args : List Expr} {p pos : Pos} {mi : M (List PyData)} (g : Gl X "zip" ∧ X.mg "zip" = none) (h : (match tg, args with
    | .Tuple _ _ _, [a, b] => (denL (escF (d.E G)) [a, b]).map (mWalk fZip)
    | _, _ => none) = some mi) : PI X tg (.Call (.Name "zip" p) args [] pos) (tI w mi) := by
  have pa : ∀ {es : List Expr} {ms : List (M Hd)}, denL (escF (d.E G)) es = some ms → PA X es (tA w (mArgs ms)) := fun e2 => denL_pa (fun e m => escF_ok D c) e2
  split at h
  · obtain ⟨ms, e1, rfl⟩ := Option.map_eq_some_iff.mp h
    obtain ⟨_, _, _, hs, _, h2⟩ := denL_cons e1
    exact si_zip c.kd g.1 g.2 (pa e1) (star_cons hs) (denL_any h2)
  · cases h
theorem iterN_ok (D : DenOk d) (c : CxP w X G) {tg : Expr} {args : List Expr} {p pos : Pos} {mi : M (List PyData)} (g : Gl X "enumerate" ∧ X.mg "enumerate" = none) (h : (match tg, args with
    | .Tuple _ _ _, [a] => (denL (escF (d.E G)) [a]).map (mWalk fEnum)
    | _, _ => none) = some mi) : PI X tg (.Call (.Name "enumerate" p) args [] pos) (tI w mi) := by
  have pa : ∀ {es : List Expr} {ms : List (M Hd)}, denL (escF (d.E G)) es = some ms → PA X es (tA w (mArgs ms)) := fun e2 => denL_pa (fun e m => escF_ok D c) e2
  split at h
  · obtain ⟨ms, e1, rfl⟩ := Option.map_eq_some_iff.mp h
    obtain ⟨_, _, _, hs, _, _⟩ := denL_cons e1
    exact si_enum c.kd g.1 g.2 (pa e1) (star_cons hs)
  · cases h
theorem iterE_ok (D : DenOk d) (c : CxP w X G) {tg : Expr} {x : Str} {args : List Expr} {p pos : Pos} {mi : M (List PyData)} (g : Gl X x ∧ X.mg x = none) (h : iterE d G tg x args = some mi) : PI X tg (.Call (.Name x p) args [] pos) (tI w mi) := by
  rcases ite_some h with ⟨e, k⟩ | ⟨_, k⟩
  · subst e; exact iterR_ok D c g k
  rcases ite_some k with ⟨e, k2⟩ | ⟨_, k2⟩
  · subst e; exact iterZ_ok D c g k2
  rcases ite_some k2 with ⟨e, k3⟩ | ⟨_, k3⟩
  · subst e; exact iterN_ok D c g k3
  cases k3
theorem stepI_ok (D : DenOk d) (c : CxP w X G) {tg e : Expr} {mi : M (List PyData)} (h : stepI d G tg e = some mi) : PI X tg e (tI w mi) := by
  unfold stepI at h
  split at h
  · rename_i x args e1
    unfold iterBlt at e1
    split at e1
    · split at e1
      · rename_i e2
        rcases ite_some e1 with ⟨_, e1⟩ | ⟨_, e1⟩
        · cases e1
          obtain ⟨g1, ⟨_, _, g2⟩, _⟩ := glob_some c e2
          exact iterE_ok D c ⟨g1, g2⟩ h
        · cases e1
      · cases e1
    · cases e1
  · obtain ⟨ma, e1, rfl⟩ := Option.map_eq_some_iff.mp h
    exact si_seq c.kd (D.E c e1)
end
theorem den_ok : ∀ n, DenOk (den n)
  | 0 => ⟨fun _ h => (by cases h), fun _ h => (by cases h), fun _ h => (by cases h)⟩
  | n + 1 => ⟨fun c h => stepE_ok (den_ok n) c h, fun c h => stepT_ok (den_ok n) c h, fun c h => stepI_ok (den_ok n) c h⟩
end Pu
set_option Elab.async false
set_option linter.all false
set_option maxRecDepth 100000
set_option maxHeartbeats 2000000
/-! Pg1: the pure layer: a list of lists of one's own: xss = [list(e) for ..], xss[i][j] = e. -/
namespace Pu
open PySem L2 PyProof.Rows
def eraL (bs : List Addr) (H : Hp) : Hp := fun b => if b ∈ bs then none else H b
theorem eraL_out {bs : List Addr} {H : Hp} {b : Addr} (h : b ∉ bs) : eraL bs H b = H b := if_neg h
theorem eraL_in {bs : List Addr} {H : Hp} {b : Addr} (h : b ∈ bs) : eraL bs H b = none := if_pos h
theorem eraL_some {bs : List Addr} {H : Hp} {b : Addr} {o : HO} (h : eraL bs H b = some o) : b ∉ bs ∧ H b = some o := by
  by_cases hb : b ∈ bs
  · rw [eraL_in hb] at h; cases h
  · rw [eraL_out hb] at h; exact ⟨hb, h⟩
theorem eraL_nil {H : Hp} : eraL [] H = H := by
  funext b
  exact eraL_out (by simp)
theorem eraL_cons {bs : List Addr} {b : Addr} {H : Hp} : eraL (b :: bs) H = era b (eraL bs H) := by
  funext c
  by_cases h1 : c = b
  · subst h1
    rw [era_self, eraL_in List.mem_cons_self]
  · rw [era_ne h1]
    by_cases h2 : c ∈ bs
    · rw [eraL_in h2, eraL_in (List.mem_cons_of_mem _ h2)]
    · rw [eraL_out h2, eraL_out fun z => (List.mem_cons.mp z).elim h1 h2]
theorem eraL_snoc {bs : List Addr} {b : Addr} {H : Hp} : eraL (bs ++ [b]) H = era b (eraL bs H) := by
  funext c
  by_cases h1 : c = b
  · subst h1
    rw [era_self, eraL_in (by simp)]
  · rw [era_ne h1]
    by_cases h2 : c ∈ bs
    · rw [eraL_in h2, eraL_in (by simp [h2])]
    · rw [eraL_out h2, eraL_out (by simp [h1, h2])]
theorem eraL_upd {bs : List Addr} {b : Addr} {H : Hp} {o : HO} (h : b ∈ bs) : eraL bs (upd H b o) = eraL bs H := by
  funext c
  by_cases h2 : c ∈ bs
  · rw [eraL_in h2, eraL_in h2]
  · rw [eraL_out h2, eraL_out h2, upd_ne fun z => h2 (by rw [z]; exact h)]
section
variable {K : PySem.W.Frag} {F F' F1 H H' H1 : Hp} {ρ ρ' ρ1 : Ev} {σ : L2.St}
theorem St.unerL : ∀ {bs : List Addr}, St K F ρ σ (eraL bs H) → St K F ρ σ H
  | [], S => by rw [eraL_nil] at S; exact S
  | b :: bs, S => by
    rw [eraL_cons] at S
    exact St.unerL S.uner
theorem StpE.eraL : ∀ {bs : List Addr}, bs.Nodup → St K F ρ σ (Pu.eraL bs H) → (∀ b ∈ bs, ∃ us, H b = some (.lst us)) → StpE K F ρ σ H F' ρ' H' → (∀ b ∈ bs, H' b = H b) ∧ StpE K F ρ σ (Pu.eraL bs H) F' ρ' (Pu.eraL bs H')
  | [], _, _, _, p => by
    rw [eraL_nil, eraL_nil]
    exact ⟨fun b hb => (List.not_mem_nil hb).elim, p⟩
  | b :: bs, nd, S, hl, p => by
    rw [eraL_cons] at S
    obtain ⟨n1, n2⟩ := List.nodup_cons.mp nd
    obtain ⟨h1, p1⟩ := StpE.eraL n2 S.uner (fun c hc => hl c (List.mem_cons_of_mem _ hc)) p
    obtain ⟨h2, p2⟩ := StpE.era (A := b) S (by rw [eraL_out n1]; exact hl b List.mem_cons_self) p1
    rw [eraL_out n1, eraL_out n1] at h2
    rw [eraL_cons, eraL_cons]
    refine ⟨fun c hc => ?_, p2⟩
    rcases List.mem_cons.mp hc with z | z
    · rw [z]; exact h2
    · exact h1 c z
/-- a new list is left out of sight -/
theorem StpE.drop {b : Addr} (S : St K F ρ σ H) (p : StpE K F ρ σ H F' ρ' H') (n : NO H b) (hF : F' b = none) (hl : ∃ us, H' b = some (.lst us)) : StpE K F ρ σ H F' ρ' (Pu.era b H') := by
  have nm : ¬ Mu ρ' σ b := fun m => by
    obtain ⟨⟨us, e⟩, _⟩ := S.mu_some (p.mu m)
    exact n.lst e
  have st := p.st
  refine ⟨⟨st.len, fun c o h => by rw [era_ne fun z => by rw [z, hF] at h; cases h]; exact st.le c o h, fun i s hs => ?_, st.inj, ?_, st.nt⟩, p.le, fun c o h t n' => ?_, fun c h => ?_, p.new, p.sl⟩
  · obtain ⟨v, e, ok⟩ := st.slot i s hs
    refine ⟨v, e, ?_⟩
    cases s with
    | frz d => exact ok
    | obj d => exact ok
    | own xs =>
      obtain ⟨a, vs, h1, h2, h3⟩ := ok
      subst h1
      exact ⟨a, vs, rfl, by rw [era_ne fun z => nm ⟨i, _, hs, rfl, by rw [← z]; exact e⟩]; exact h2, h3⟩
    | io xs =>
      obtain ⟨a, vs, h1, h2, h3⟩ := ok
      subst h1
      exact ⟨a, vs, rfl, by rw [era_ne fun z => nm ⟨i, _, hs, rfl, by rw [← z]; exact e⟩]; exact h2, h3⟩
  · obtain ⟨us, e⟩ := hl
    exact tabs_out st.tb e fun c o n h => (era_ne n).trans h
  · rw [era_ne fun z => (n o (by rw [← z]; exact h) t).elim]
    exact p.keep c o h t n'
  · by_cases hb : c = b
    · rw [hb]; exact n
    · exact p.dom c ((NO.era hb).mp h)
/-- a list that was out of sight is shared for good -/
theorem StpE.frz {b : Addr} {vs : List V} (S : St K F ρ σ H) (p : StpE K F ρ σ H F' ρ' (Pu.era b H')) (n : NO H b) (hl : H' b = some (.lst vs)) : F' b = none ∧ StpE K F ρ σ H (upd F' b (.lst vs)) ρ' H' := by
  have st := p.st
  have nm : ¬ Mu ρ' σ b := fun m => by
    obtain ⟨⟨us, e⟩, _⟩ := S.mu_some (p.mu m)
    exact n.lst e
  have hF : F' b = none := by
    cases e : F' b with
    | none => rfl
    | some o => have z := st.le b o e; rw [era_self] at z; cases z
  have sub : Sub F' (upd F' b (.lst vs)) := fun c o h => by rw [upd_ne fun z => by rw [z, hF] at h; cases h]; exact h
  refine ⟨hF, ⟨⟨st.len, fun c o h => ?_, fun i s hs => ?_, st.inj, st.tb.ext (fun c o h => (era_some h).2), fun c o h => ?_⟩, p.le.trans sub, fun c o h t n' => (era_some (p.keep c o h t n')).2, fun c h => ?_, fun c o h => ?_, p.sl⟩⟩
  · by_cases hc : c = b
    · subst hc; rw [upd_same] at h; cases h; exact hl
    · rw [upd_ne hc] at h; exact (era_some (st.le c o h)).2
  · obtain ⟨v, e, ok⟩ := st.slot i s hs
    refine ⟨v, e, ?_⟩
    cases s with
    | frz d => exact Rp.mono sub _ _ ok
    | obj d => exact ok
    | own xs =>
      obtain ⟨a, us, h1, h2, h3, h4⟩ := ok
      obtain ⟨g1, g2⟩ := era_some h2
      exact ⟨a, us, h1, g2, by rw [upd_ne g1]; exact h3, RpAll.mono sub _ _ h4⟩
    | io xs =>
      obtain ⟨a, us, h1, h2, h3, h4⟩ := ok
      obtain ⟨g1, g2⟩ := era_some h2
      exact ⟨a, us, h1, g2, by rw [upd_ne g1]; exact h3, RpAll.mono sub _ _ h4⟩
  · by_cases hc : c = b
    · subst hc; rw [upd_same] at h; cases h; exact nt_lst
    · rw [upd_ne hc] at h; exact st.nt c o h
  · by_cases hc : c = b
    · rw [hc]; exact n
    · exact p.dom c ((NO.era hc).mpr h)
  · by_cases hc : c = b
    · rw [hc]; exact .inr (.inl n)
    · rw [upd_ne hc] at h; exact p.new c o h
theorem StpE.uner {b : Addr} (p : StpE K F ρ σ H F' ρ' (Pu.era b H')) (n : NO H b) : StpE K F ρ σ H F' ρ' H' := by
  refine ⟨p.st.uner, p.le, fun c o h t n' => (era_some (p.keep c o h t n')).2, fun c h => ?_, p.new, p.sl⟩
  by_cases hc : c = b
  · rw [hc]; exact n
  · exact p.dom c ((NO.era hc).mpr h)
/-- a slot of which nothing is known holds something else -/
theorem Mu.setσ {x : Nat} {o : Option V} {b : Addr} (h : ρ[x]? = some none) (m : Mu ρ (σ.set x o) b) : Mu ρ σ b := by
  obtain ⟨i, s, h1, h2, h3⟩ := m
  have ne : x ≠ i := fun z => by rw [z, h1] at h; cases h
  exact ⟨i, s, h1, h2, by rw [List.getElem?_set_ne ne] at h3; exact h3⟩
theorem Mu.setσ' {x : Nat} {o : Option V} {b : Addr} (h : ρ[x]? = some none) (m : Mu ρ σ b) : Mu ρ (σ.set x o) b := by
  obtain ⟨i, s, h1, h2, h3⟩ := m
  have ne : x ≠ i := fun z => by rw [z, h1] at h; cases h
  exact ⟨i, s, h1, h2, by rw [List.getElem?_set_ne ne]; exact h3⟩
theorem St.setσ {x : Nat} (o : Option V) (h : ρ[x]? = some none) (S : St K F ρ σ H) : St K F ρ (σ.set x o) H := by
  have ne : ∀ {i : Nat} {s : Sl}, ρ[i]? = some (some s) → x ≠ i := fun {i s} h1 z => by rw [z, h1] at h; cases h
  refine ⟨by rw [List.length_set]; exact S.len, S.le, fun i s hs => ?_, fun i j s t a hi hj ms mt ei ej => ?_, S.tb, S.nt⟩
  · rw [List.getElem?_set_ne (ne hs)]; exact S.slot i s hs
  · rw [List.getElem?_set_ne (ne hi)] at ei
    rw [List.getElem?_set_ne (ne hj)] at ej
    exact S.inj i j s t a hi hj ms mt ei ej
theorem StpE.isNone (p : StpE K F ρ σ H F' ρ' H') (S : St K F ρ σ H) {x : Nat} (h : ρ[x]? = some none) : ρ'[x]? = some none := by
  have z := p.sl x
  have hl : ρ'.length = ρ.length := by rw [p.st.len, S.len]
  rw [h] at z
  have z : (ρ'[x]?).join = none := z
  have hx : x < ρ'.length := by rw [hl]; exact (List.getElem?_eq_some_iff.mp h).1
  rw [List.getElem?_eq_getElem hx] at z ⊢
  exact congrArg some z
theorem StpE.setσ {x : Nat} (o : Option V) (S : St K F ρ σ H) (h : ρ[x]? = some none) (p : StpE K F ρ σ H F' ρ' H') : StpE K F ρ (σ.set x o) H F' ρ' H' :=
  ⟨p.st.setσ o (p.isNone S h), p.le, fun c u g t n => p.keep c u g t fun m => n (Mu.setσ' h m), p.dom, fun c u g => (p.new c u g).imp id (Or.imp id (Mu.setσ' h)), p.sl⟩

/-! ### the lists -/
def GR (K : PySem.W.Frag) (F H : Hp) : List Addr → List (List D) → Prop
  | [], [] => True
  | b :: bs, d :: g => (∃ vs, H b = some (.lst vs) ∧ RpAll K F vs d) ∧ GR K F H bs g
  | _, _ => False
theorem GR.mono (s : Sub F F') : ∀ {bs : List Addr} {g : List (List D)}, (∀ b ∈ bs, H' b = H b) → GR K F H bs g → GR K F' H' bs g
  | [], [], _, _ => trivial
  | b :: bs, d :: g, e, ⟨⟨vs, h1, h2⟩, r⟩ => ⟨⟨vs, by rw [e b List.mem_cons_self]; exact h1, RpAll.mono s _ _ h2⟩, GR.mono s (fun c hc => e c (List.mem_cons_of_mem _ hc)) r⟩
  | [], _ :: _, _, h => h.elim
  | _ :: _, [], _, h => h.elim
theorem GR.len : ∀ {bs : List Addr} {g : List (List D)}, GR K F H bs g → bs.length = g.length
  | [], [], _ => rfl
  | _ :: _, _ :: _, ⟨_, r⟩ => by simp only [List.length_cons, GR.len r]
  | [], _ :: _, h => h.elim
  | _ :: _, [], h => h.elim
theorem GR.get : ∀ {bs : List Addr} {g : List (List D)} {k : Nat} {d : List D}, GR K F H bs g → g[k]? = some d → ∃ b vs, bs[k]? = some b ∧ H b = some (.lst vs) ∧ RpAll K F vs d
  | [], [], _, _, _, e => by simp at e
  | b :: bs, d :: g, 0, _, ⟨⟨vs, h1, h2⟩, r⟩, e => by simp at e; subst e; exact ⟨b, vs, rfl, h1, h2⟩
  | b :: bs, d :: g, k + 1, _, ⟨_, r⟩, e => by
    obtain ⟨c, vs, h⟩ := GR.get (k := k) r (by simpa using e)
    exact ⟨c, vs, by simpa using h⟩
  | [], _ :: _, _, _, h, _ => h.elim
  | _ :: _, [], _, _, h, _ => h.elim
theorem GR.lists : ∀ {bs : List Addr} {g : List (List D)}, GR K F H bs g → ∀ b ∈ bs, ∃ us, H b = some (.lst us)
  | [], [], _, _, h => by cases h
  | b :: bs, d :: g, ⟨⟨vs, h1, _⟩, r⟩, c, hc => by
    rcases List.mem_cons.mp hc with z | z
    · exact ⟨vs, by rw [z]; exact h1⟩
    · exact GR.lists r c z
  | [], _ :: _, h, _, _ => h.elim
  | _ :: _, [], h, _, _ => h.elim
theorem GR.set {us : List V} {e : List D} (r : RpAll K F us e) : ∀ {bs : List Addr} {g : List (List D)} {k : Nat} {b : Addr}, bs.Nodup → bs[k]? = some b → GR K F H bs g → GR K F (upd H b (.lst us)) bs (g.set k e)
  | [], [], _, _, _, e, _ => by simp at e
  | c :: bs, d :: g, 0, b, nd, e, ⟨_, q⟩ => by
    simp at e
    subst e
    exact ⟨⟨us, upd_same, r⟩, q.mono (Sub.refl _) fun x hx => upd_ne fun z => (List.nodup_cons.mp nd).1 (z ▸ hx)⟩
  | c :: bs, d :: g, k + 1, b, nd, e, ⟨⟨vs, h1, h2⟩, q⟩ => by
    have e : bs[k]? = some b := by simpa using e
    obtain ⟨n1, n2⟩ := List.nodup_cons.mp nd
    exact ⟨⟨vs, by rw [upd_ne fun z => n1 (by rw [z]; exact List.mem_of_getElem? e)]; exact h1, h2⟩, GR.set r n2 e q⟩
  | [], _ :: _, _, _, _, _, h => h.elim
  | _ :: _, [], _, _, _, _, h => h.elim
theorem GR.snoc {b : Addr} {vs : List V} {d : List D} (h1 : H b = some (.lst vs)) (h2 : RpAll K F vs d) : ∀ {bs : List Addr} {g : List (List D)}, GR K F H bs g → GR K F H (bs ++ [b]) (g ++ [d])
  | [], [], _ => ⟨⟨vs, h1, h2⟩, trivial⟩
  | _ :: _, _ :: _, ⟨a, r⟩ => ⟨a, GR.snoc h1 h2 r⟩
  | [], _ :: _, h => h.elim
  | _ :: _, [], h => h.elim
structure GI (K : PySem.W.Frag) (F0 : Hp) (ρ0 : Ev) (σ : L2.St) (H0 : Hp) (a : Addr) (bs : List Addr) (g : List (List D)) (F : Hp) (ρ : Ev) (H : Hp) : Prop where
  st : StpE K F0 ρ0 σ H0 F ρ (eraL (a :: bs) H)
  nd : (a :: bs).Nodup
  top : H a = some (.lst (bs.map V.ref))
  no : ∀ b ∈ a :: bs, NO H0 b
  rows : GR K F H bs g
theorem GI.lists {F0 H0 : Hp} {ρ0 : Ev} {a : Addr} {bs : List Addr} {g : List (List D)} (G : GI K F0 ρ0 σ H0 a bs g F ρ H) : ∀ b ∈ a :: bs, ∃ us, H b = some (.lst us) := fun b hb => by
  rcases List.mem_cons.mp hb with z | z
  · exact ⟨_, by rw [z]; exact G.top⟩
  · exact G.rows.lists b z
theorem GI.step {F0 H0 : Hp} {ρ0 : Ev} {a : Addr} {bs : List Addr} {g : List (List D)} (S0 : St K F0 ρ0 σ H0) (G : GI K F0 ρ0 σ H0 a bs g F ρ H) (p : StpE K F ρ σ H F' ρ' H') : GI K F0 ρ0 σ H0 a bs g F' ρ' H' := by
  obtain ⟨h1, p1⟩ := StpE.eraL G.nd G.st.st G.lists p
  exact ⟨G.st.trans S0 p1, G.nd, by rw [h1 a List.mem_cons_self]; exact G.top, G.no, G.rows.mono p.le fun b hb => h1 b (List.mem_cons_of_mem _ hb)⟩
theorem GI.full {F0 H0 : Hp} {ρ0 : Ev} {a : Addr} {bs : List Addr} {g : List (List D)} (G : GI K F0 ρ0 σ H0 a bs g F ρ H) : St K F ρ σ H := G.st.st.unerL
/-- all lists are shared for good -/
theorem GR.freeze : ∀ {bs : List Addr} {g : List (List D)} {F : Hp}, St K F1 ρ1 σ H1 → bs.Nodup → (∀ b ∈ bs, NO H1 b) → GR K F H bs g → StpE K F1 ρ1 σ H1 F ρ (eraL bs H) → ∃ F', StpE K F1 ρ1 σ H1 F' ρ H ∧ Sub F F' ∧ (∀ c, c ∉ bs → F' c = F c) ∧ RpAll K F' (bs.map V.ref) (g.map PyData.list)
  | [], [], F, S, _, _, _, p => by
    rw [eraL_nil] at p
    exact ⟨F, p, Sub.refl _, fun _ _ => rfl, .nil⟩
  | b :: bs, d :: g, F, S, nd, no, ⟨⟨vs, h1, h2⟩, q⟩, p => by
    obtain ⟨n1, n2⟩ := List.nodup_cons.mp nd
    rw [eraL_cons] at p
    obtain ⟨hF, p1⟩ := StpE.frz S p (no b List.mem_cons_self) (by rw [eraL_out n1]; exact h1)
    have sub : Sub F (upd F b (.lst vs)) := fun c o h => by rw [upd_ne fun z => by rw [z, hF] at h; cases h]; exact h
    obtain ⟨F', p2, s2, o2, r2⟩ := GR.freeze S n2 (fun c hc => no c (List.mem_cons_of_mem _ hc)) (q.mono sub fun _ _ => rfl) p1
    refine ⟨F', p2, sub.trans s2, fun c hc => ?_, .cons (.lst (.inl (s2 b _ upd_same)) (RpAll.mono (sub.trans s2) _ _ h2)) r2⟩
    have hc' := not_or.mp fun z => hc (List.mem_cons.mpr z)
    rw [o2 c hc'.2, upd_ne hc'.1]
  | [], _ :: _, _, _, _, _, h, _ => h.elim
  | _ :: _, [], _, _, _, _, h, _ => h.elim
end

/-! ### the words -/
def freshL (h : Hd) : Option (List D) := match h with
  | .v (.fr es) => some es
  | _ => none
def gRun (vs : List Nat) (tg : Tg) (elt : M Hd) : List D → M (List (List D))
  | [] => fun ρ => .ok [] ρ
  | d :: ds => fun ρ => match asg tg d ρ with
    | none => .bad
    | some ρ1 => (elt ρ1).bind fun h ρ2 => match freshL h with
      | some e => (gRun vs tg elt ds (wipeE vs ρ2)).bind fun es ρ3 => .ok (e :: es) ρ3
      | none => .bad
def mGC (vs : List Nat) (mi : M (List D)) (tg : Tg) (elt : M Hd) : M (List (List D)) := fun ρ => (mi ρ).bind fun ds ρ1 =>
  if ds.length ≤ lim then (gRun vs tg elt ds (wipeE vs ρ1)).bind fun g ρ2 => .ok g (backE vs ρ1 ρ2) else .bad
abbrev MG := List (List D) → M (List (List D))
def mGst (mi mj me : M Hd) : MG := fun g ρ => (mEsc me ρ).bind fun hv ρ1 => (mi ρ1).bind fun hi ρ2 => match rd hi ρ2 with
  | some (.int i) => (match ixN g.length i with
    | some k => (match g[k]? with
      | some row => (mj ρ2).bind fun hj ρ3 => (match kept hv, rd hj ρ3 with
        | some d, some (.int j) => (match ixN row.length j with
          | some l => .ok (g.set k (row.set l d)) ρ3
          | none => .bad)
        | _, _ => .bad)
      | none => .bad)
    | none => .bad)
  | _ => .bad
def mGif (mc : M Hd) (b : MG) : MG := fun g ρ => (mc ρ).bind fun h ρ1 => match asB h ρ1 with
  | some true => b g ρ1
  | some false => .ok g ρ1
  | none => .bad
def mGrid (x : Nat) (mc : M (List (List D))) (b1 b2 : MG) : M Fl := fun ρ => match ρ[x]? with
  | some none => (noExc ((mc ρ).bind fun g ρ1 => (b1 g ρ1).bind fun g ρ2 => b2 g ρ2)).bind fun g ρ3 => .ok .next (ρ3.set x (some (.own (g.map .list))))
  | _ => .bad
theorem Res.bind_ok {α β : Type} {r : Res α} {f : α → M β} {b : β} {ρ' : Ev} (h : r.bind f = .ok b ρ') : ∃ a ρ1, r = .ok a ρ1 ∧ f a ρ1 = .ok b ρ' := by
  cases r with
  | ok a ρ1 => exact ⟨a, ρ1, rfl, h⟩
  | exc x ρ1 => cases h
  | bad => cases h
theorem noExc_exc {α : Type} {r : Res α} {x : Exn} {ρ : Ev} (h : noExc r = .exc x ρ) : False := by
  cases r <;> cases h
theorem freshL_some {h : Hd} {es : List D} (e : freshL h = some es) : h = .v (.fr es) := by
  unfold freshL at e
  split at e
  · cases e; rfl
  · cases e
section
variable {w : Wi} {X : Cx}
theorem gcomp_in {vs : List Nat} {mi : M (List D)} {tg : Tg} {elt : M Hd} {σ : L2.St} {H F : Hp} {ρ ρ' : Ev} {g : List (List D)} {Q : VK} (hs : ∀ i ∈ tg.slots, i ∈ vs) (S : St w.K F ρ σ H) (hrun : mGC vs mi tg elt ρ = .ok g ρ')
    (q : ∀ a bs F' H', GI w.K F ρ σ H a bs g F' ρ' H' → Q (.ref a) H') : tLc (tI w mi) (tG w.blk tg) (tT w.blk (mC (.bool true))) (tK w.blk elt) vs σ H Q := by
  obtain ⟨ds, ρ1, e1, hrun⟩ := Res.bind_ok hrun
  split at hrun
  case isFalse => cases hrun
  rename_i hlim
  obtain ⟨g', ρ0, e0, hrun⟩ := Res.bind_ok hrun
  cases hrun
  refine ⟨F, ρ, S, ?_⟩
  rw [e1]
  intro F1 H1 p J hJ A hA
  have S1 := p.st
  have Sw := S1.wipe vs
  let W : Nat → Nat → Hp → Prop := fun i m H' => m = ds.length - i ∧ i ≤ ds.length ∧ ∃ Fi ρi acc bs, GI w.K F1 (wipeE vs ρ1) (L2.wipe σ vs) H1 A bs acc Fi ρi H' ∧ wipeE vs ρi = ρi ∧ acc.length = i ∧
    (gRun vs tg elt (ds.drop i) ρi).bind (fun es ρ' => .ok (acc ++ es) ρ') = .ok g ρ0
  have G0 : GI w.K F1 (wipeE vs ρ1) (L2.wipe σ vs) H1 A [] [] F1 (wipeE vs ρ1) (upd H1 A (.lst [])) := by
    refine ⟨?_, by simp, upd_same, fun b hb => ?_, trivial⟩
    · rw [eraL_upd List.mem_cons_self, eraL_cons, eraL_nil, era_none hA]; exact .refl Sw
    · rw [List.mem_singleton.mp hb]; exact .none hA
  refine ⟨W, ⟨ds.length, by simp, Nat.zero_le _, F1, wipeE vs ρ1, [], [], G0, wipeE_idem, rfl, ?_⟩, ?_⟩
  · rw [List.drop_zero, e0]; rfl
  rintro i m H' ⟨rfl, hi, Fi, ρi, acc, bs, G, hwi, hacc, heq⟩
  have Si : St w.K Fi ρi (L2.wipe σ vs) H' := G.full
  have sF1 : Sub F1 H' := G.st.le.trans Si.le
  by_cases hlt : i < ds.length
  · refine .inr ⟨hJ.go i H' sF1 hlt, W (i + 1) (ds.length - (i + 1)), fun H'' h => ⟨_, by omega, h⟩, fun x H2 hy => ?_⟩
    obtain ⟨d, hd⟩ := at_some hlt
    obtain ⟨F2, mk⟩ := hJ.yld i d x H' H2 Fi G.st.le Si.le hd hy
    have p2 := Si.made mk
    have G2 := GI.step Sw G p2
    have hdrop : ds.drop i = d :: ds.drop (i + 1) := by
      rw [List.drop_eq_getElem_cons hlt]
      rw [List.getElem?_eq_getElem hlt] at hd
      cases hd; rfl
    rw [hdrop] at heq
    unfold gRun at heq
    cases ea : asg tg d ρi with
    | none => rw [ea] at heq; cases heq
    | some ρa =>
      rw [ea] at heq
      refine ⟨F2, ρi, d, ρa, p2.st, mk.rv, ea, fun σ2 S2 c2 mu2 => ⟨by rw [wipe_chg c2 hs, wipe_wipe], ?_⟩⟩
      refine ⟨F2, ρa, S2, fun F3 H3 p3 => ⟨true, rfl, ?_⟩⟩
      have ρe : ∀ j : Nat, j ∉ vs → (ρa[j]?).join = (ρi[j]?).join := fun j hj => by rw [asg_ne ea fun z => hj (hs j z)]
      refine ⟨F3, ρa, p3.st, ?_⟩
      have heq : ((elt ρa).bind fun h ρ2 => match freshL h with
        | some e => (gRun vs tg elt (ds.drop (i + 1)) (wipeE vs ρ2)).bind fun es ρ3 => .ok (e :: es) ρ3
        | none => .bad).bind (fun es ρ' => .ok (acc ++ es) ρ') = .ok g ρ0 := heq
      obtain ⟨es', ρe', h1, h2⟩ := Res.bind_ok heq
      obtain ⟨k, ρk, em, h3⟩ := Res.bind_ok h1
      rw [em]
      intro F4 H4 p4 v hv
      cases ek : freshL k with
      | none => rw [ek] at h3; cases h3
      | some e =>
        rw [ek] at h3
        obtain ⟨es, ρs, h4, h5⟩ := Res.bind_ok h3
        cases h5
        cases h2
        rw [freshL_some ek] at hv
        obtain ⟨b, us, ev, nb, hb, hFb, rb⟩ := hv
        subst ev
        have G4 := GI.step Sw G2 (turn_step p2.st hwi c2 hs ρe mu2 (p3.trans S2 p4))
        have G3 := GI.step Sw G2 (turn_step p2.st hwi c2 hs ρe mu2 p3)
        have nm : b ∉ A :: bs := fun z => by
          obtain ⟨us', e'⟩ := G3.lists b z
          exact nb.lst e'
        have n1 : NO H1 b := G3.st.dom b (by
          intro o ho
          rw [eraL_out nm] at ho
          exact nb o ho)
        refine ⟨bs.map V.ref, G4.top, by rw [List.length_map, G4.rows.len, hacc, sizeLine_eq]; have z : ds.length ≤ 16777216 := hlim; omega, rfl, hlt, F4, wipeE vs ρk, acc ++ [e], bs ++ [b], ?_, wipeE_idem, by rw [List.length_append, hacc]; rfl, ?_⟩
        · have nA : ∀ c ∈ bs, c ≠ A := fun c hc z => (List.nodup_cons.mp G4.nd).1 (z ▸ hc)
          have nbA : b ≠ A := fun z => nm (z ▸ List.mem_cons_self)
          refine ⟨?_, ?_, by rw [upd_same, List.map_append]; rfl, fun c hc => ?_, ?_⟩
          · rw [eraL_upd List.mem_cons_self, ← List.cons_append, eraL_snoc]
            exact StpE.drop Sw G4.st n1 hFb ⟨us, by rw [eraL_out nm]; exact hb⟩
          · rw [← List.cons_append]
            refine List.nodup_append.mpr ⟨G4.nd, by simp, fun c hc d hd z => ?_⟩
            rw [List.mem_singleton.mp hd] at z
            exact nm (z ▸ hc)
          · rw [← List.cons_append] at hc
            rcases List.mem_append.mp hc with z | z
            · exact G4.no c z
            · rw [List.mem_singleton.mp z]; exact n1
          · refine GR.snoc (by rw [upd_ne nbA]; exact hb) rb (G4.rows.mono (Sub.refl _) fun c hc => upd_ne (nA c hc))
        · rw [h4]
          show Res.ok (acc ++ [e] ++ es) _ = Res.ok (acc ++ (e :: es)) _
          rw [List.append_assoc]; rfl
  · have hi' : i = ds.length := by omega
    subst hi'
    refine .inl ⟨hJ.stop H' sF1, q A bs Fi H' ?_⟩
    rw [List.drop_length] at heq
    have heq : Res.ok (acc ++ []) ρi = Res.ok g ρ0 := heq
    rw [List.append_nil] at heq
    cases heq
    obtain ⟨n1, n2⟩ := List.nodup_cons.mp G.nd
    have hHA : eraL bs H' A = some (.lst (bs.map V.ref)) := by rw [eraL_out n1]; exact G.top
    have pb := G.st
    rw [eraL_cons] at pb
    have b1 := back_step S1 hA pb hHA
    have hFA : Fi A = none := by
      cases e : Fi A with
      | none => rfl
      | some o => have z := pb.st.le A o e; rw [era_self] at z; cases z
    have b2 := StpE.drop S1 b1 (.none hA) hFA ⟨_, hHA⟩
    rw [← eraL_cons] at b2
    exact ⟨p.trans S b2, G.nd, G.top, fun b hb => p.dom b (G.no b hb), G.rows⟩

/-! ### the statements -/
def tGS (w : Wi) (x : Nat) (m : MG) : TS := fun D σ H => ∃ F0 ρ0 H0 a bs g F ρ g' ρ', St w.K F0 ρ0 σ H0 ∧ GI w.K F0 ρ0 σ H0 a bs g F ρ H ∧ σ[x]? = some (some (.ref a)) ∧ m g ρ = .ok g' ρ' ∧ ∀ F' H', GI w.K F0 ρ0 σ H0 a bs g' F' ρ' H' → D.nx σ H'
theorem ss_gst {k : Nat} {x : Str} {i j e : Expr} {mi mj me : M Hd} {px ps ps2 pos : Pos} (hN : X.N[k]? = some x) (hv : Vis X.env.scope x) (hd : (x == ("__debug__" : Str)) = false) (hcd : (x == ("__classdict__" : Str)) = false) (hi : PE X i (tK w mi)) (hsi : PlainIx i) (hj : PE X j (tK w mj)) (he : PE X e (tK w me))
    (ha : ∀ v, assign (.Subscript (.Subscript (.Name x px) i ps) j ps2) X.env v = (do
      let ov ← holding [v] (eval (.Subscript (.Name x px) i ps) X.env)
      let iv ← holding [v, ov] (eval j X.env)
      standAt ps2
      holding [v, ov, iv] (setItem ov iv v)
      release [v, ov, iv] []))
    (hs : swapsWithSole [.Subscript (.Subscript (.Name x px) i ps) j ps2] e pos.line X.env = pure false) (hw : swappedStores [.Subscript (.Subscript (.Name x px) i ps) j ps2] e X.env = pure none) (h1 : (assignEach [.Subscript (.Subscript (.Name x px) i ps) j ps2] X.env).map (·.2) = [assign (.Subscript (.Subscript (.Name x px) i ps) j ps2) X.env]) :
    PS X (.Assign [.Subscript (.Subscript (.Name x px) i ps) j ps2] e pos) (tGS w k (mGst mi mj me)) := by
  refine PSimp (ps_asg (se_esc he) (pg_sub (pe_ix ix_seq (se_slot hN hv hd hcd) hi hsi) hj set_list ha) hs hw h1) fun D σ H ⟨F0, ρ0, H0, a, bs, g, F, ρ, g', ρ', S0, G, hx, hrun, q⟩ => ?_
  obtain ⟨hv', ρ1, e1, hrun⟩ := Res.bind_ok hrun
  obtain ⟨hi', ρ2, e2, hrun⟩ := Res.bind_ok hrun
  split at hrun
  case h_2 => cases hrun
  rename_i iz ei
  split at hrun
  case h_2 => cases hrun
  rename_i kz ek
  split at hrun
  case h_2 => cases hrun
  rename_i row er
  obtain ⟨hj', ρ3, e3, hrun⟩ := Res.bind_ok hrun
  split at hrun
  case h_2 => cases hrun
  rename_i d jz ed ej
  split at hrun
  case h_2 => cases hrun
  rename_i lz el
  cases hrun
  refine ⟨F, ρ, G.full, ?_⟩
  rw [e1]
  intro F1 H1 p1 v hv1
  have G1 := GI.step S0 G p1
  refine ⟨.ref a, hx, F1, ρ1, p1.st, ?_⟩
  rw [e2]
  intro F2 H2 p2 y hy
  have G2 := GI.step S0 G1 p2
  obtain ⟨b, vs2, hb, hHb, _⟩ := G2.rows.get er
  refine .inl ⟨a, bs.map V.ref, iz, .ref b, rfl, (hy.pk p2.st ei).int, .inl (.of G2.top), ?_, F2, ρ2, p2.st, ?_⟩
  · unfold atI
    rw [List.length_map, G2.rows.len, ek]
    show (bs.map V.ref)[kz]? = _
    rw [List.getElem?_map, hb]; rfl
  rw [e3]
  intro F3 H3 p3 z hz
  have G3 := GI.step S0 G2 p3
  obtain ⟨b', vs, hb', hHb', hr⟩ := G3.rows.get er
  rw [hb] at hb'; cases hb'
  rw [kept_some ed] at hv1
  have hv3 : Rp w.K F3 v d := Rp.mono (p2.le.trans p3.le) _ _ hv1
  refine ⟨b, vs, jz, lz, rfl, (hz.pk p3.st ej).int, hHb', by rw [hr.length]; exact el, q F3 _ ?_⟩
  have mb : b ∈ bs := List.mem_of_getElem? hb
  have nba : a ≠ b := fun z => (List.nodup_cons.mp G3.nd).1 (z ▸ mb)
  refine ⟨by rw [eraL_upd (List.mem_cons_of_mem _ mb)]; exact G3.st, G3.nd, by rw [upd_ne nba]; exact G3.top, G3.no, GR.set (hr.set hv3 lz) (List.nodup_cons.mp G3.nd).2 hb G3.rows⟩
theorem ss_gif {k : Nat} {c : Expr} {st : Stmt} {pos : Pos} {mc : M Hd} {b : MG} (hc : PT X c (tT w mc)) (hb : PS X st (tGS w k b)) : PS X (.If c [st] [] pos) (tGS w k (mGif mc b)) := by
  refine PSimp (ps_if hc (pss_one hb) pss_nil) fun D σ H ⟨F0, ρ0, H0, a, bs, g, F, ρ, g', ρ', S0, G, hx, hrun, q⟩ => ?_
  obtain ⟨h, ρ1, e1, hrun⟩ := Res.bind_ok hrun
  refine ⟨F, ρ, G.full, ?_⟩
  rw [e1]
  intro F1 H1 p1
  have G1 := GI.step S0 G p1
  split at hrun
  · rename_i eb
    refine ⟨true, asB_some eb, ?_⟩
    exact ⟨F0, ρ0, H0, a, bs, g, F1, ρ1, g', ρ', S0, G1, hx, hrun, q⟩
  · rename_i eb
    cases hrun
    refine ⟨false, asB_some eb, ?_⟩
    exact q F1 H1 G1
  · cases hrun
theorem sss_grid {x : Nat} {s1 s2 s3 : Stmt} {ss : List Stmt} {vs : List Nat} {mi : M (List D)} {tg : Tg} {elt : M Hd} {b1 b2 : MG} {rest : List (M Fl)} (hs : ∀ i ∈ tg.slots, i ∈ vs) (h1 : PS X s1 (tAsg (tLc (tI w mi) (tG w.blk tg) (tT w.blk (mC (.bool true))) (tK w.blk elt) vs) (gName x))) (h2 : PS X s2 (tGS w x b1)) (h3 : PS X s3 (tGS w x b2)) (hr : PSs X ss (tS w (mBlk rest))) :
    PSs X (s1 :: s2 :: s3 :: ss) (tS w (mBlk (mGrid x (mGC vs mi tg elt) b1 b2 :: rest))) := by
  refine PSsimp (pss_cons h1 (pss_cons h2 (pss_cons h3 hr))) fun D σ H ⟨F, ρ, S, h⟩ => ?_
  have h : WpS w F ρ σ H (mThen (mGrid x (mGC vs mi tg elt) b1 b2) (mBlk rest) ρ) D := h
  unfold mThen mGrid at h
  split at h
  case h_2 => exact h.elim
  rename_i hx
  cases er : noExc ((mGC vs mi tg elt ρ).bind fun g ρ1 => (b1 g ρ1).bind fun g ρ2 => b2 g ρ2) with
  | bad => rw [er] at h; exact h.elim
  | exc z ρz => exact (noExc_exc er).elim
  | ok g3 ρ3 =>
    rw [er] at h
    have er : ((mGC vs mi tg elt ρ).bind fun g ρ1 => (b1 g ρ1).bind fun g ρ2 => b2 g ρ2) = .ok g3 ρ3 := noExc_eq er
    obtain ⟨g1, ρ1, r1, er⟩ := Res.bind_ok er
    obtain ⟨g2, ρ2, r2, r3⟩ := Res.bind_ok er
    show tLc _ _ _ _ _ σ H (fun v H1 => gName x v σ H1 (tSeq (tGS w x b1) (tSeq (tGS w x b2) (tS w (mBlk rest))) D))
    refine gcomp_in hs S r1 fun a bs F1 H1 G1 => ?_
    have hxl : x < σ.length := by rw [← S.len]; exact (List.getElem?_eq_some_iff.mp hx).1
    have S' := S.setσ (some (V.ref a)) hx
    have G1' : GI w.K F ρ (σ.set x (some (.ref a))) H a bs g1 F1 ρ1 H1 := ⟨G1.st.setσ _ S hx, G1.nd, G1.top, G1.no, G1.rows⟩
    have hxa : (σ.set x (some (V.ref a)))[x]? = some (some (.ref a)) := by rw [List.getElem?_set_self hxl]
    refine ⟨F, ρ, H, a, bs, g1, F1, ρ1, g2, ρ2, S', G1', hxa, r2, fun F2 H2 G2 => ?_⟩
    refine ⟨F, ρ, H, a, bs, g2, F2, ρ2, g3, ρ3, S', G2, hxa, r3, fun F3 H3 G3 => ?_⟩
    -- the end: all is shared
    have p3 := G3.st
    obtain ⟨n1, n2⟩ := List.nodup_cons.mp G3.nd
    have hcm : eraL (a :: bs) H3 = eraL bs (era a H3) := by
      funext c
      by_cases z1 : c = a
      · rw [z1, eraL_in List.mem_cons_self]
        by_cases z2 : a ∈ bs
        · rw [eraL_in z2]
        · rw [eraL_out z2, era_self]
      · by_cases z2 : c ∈ bs
        · rw [eraL_in z2, eraL_in (List.mem_cons_of_mem _ z2)]
        · rw [eraL_out z2, era_ne z1, eraL_out fun z => (List.mem_cons.mp z).elim z1 z2]
    rw [hcm] at p3
    have rows' : GR w.K F3 (era a H3) bs g3 := G3.rows.mono (Sub.refl _) fun c hc => era_ne fun z => n1 (z ▸ hc)
    obtain ⟨F4, p4, s4, o4, r4⟩ := GR.freeze S' n2 (fun b hb => G3.no b (List.mem_cons_of_mem _ hb)) rows' p3
    have nA := G3.no a List.mem_cons_self
    have hF4 : F4 a = none := by
      cases e : F4 a with
      | none => rfl
      | some o => have z := p4.st.le a o e; rw [era_self] at z; cases z
    have p5 := p4.uner nA
    have eσ : (σ.set x (some (V.ref a))).set x σ[x] = σ := by
      rw [List.set_set, List.set_getElem_self]
    have p6 : StpE w.K F ρ σ H F4 ρ3 H3 := by
      have z := p5.setσ σ[x] S' hx
      rw [eσ] at z
      exact z
    have hx3 := p6.isNone S hx
    have hput : put x (.fr (g3.map PyData.list)) ρ3 = some (ρ3.set x (some (.own (g3.map PyData.list)))) := by
      unfold put
      rw [hx3]; rfl
    have p7 := put_step p6.toS hput (v := .ref a) ⟨a, _, rfl, G3.top, hF4, fun m => by
      obtain ⟨⟨us, e⟩, _⟩ := S.mu_some (p6.mu m)
      exact nA.lst e, r4⟩ fun b eb _ => by cases eb; exact nA
    exact ⟨F4, _, p7.st, WpS.later p7 h⟩
end
end Pu
set_option Elab.async false
set_option linter.all false
set_option maxRecDepth 100000
set_option maxHeartbeats 2000000
/-! Pu17: the pure layer: reading statements off the text. -/
namespace Pu
open PySem L2 PyProof.Rows
def isComp : Expr → Bool
  | .ListComp _ _ _ _ => true
  | .SetComp _ _ _ _ => true
  | .DictComp _ _ _ _ _ => true
  | _ => false
/-- whether the comprehension e is stored within its frame -/
def swB (G : Gx) (x : Str) (p : Pos) (e : Expr) : Option Bool := match e with
  | .ListComp _ _ scope q => if G.sc.kind = .function then some (G.sc.names.lookup x == some .local && p.line == q.line && !(scope.names.any fun (n, k) => n == x && (k == .local || k == .cell))) else none
  | .SetComp _ _ _ _ => none
  | .DictComp _ _ _ _ _ => none
  | _ => some false
def localS (G : Gx) (x : Str) : Option Nat := match G.sc.names.lookup x with
  | some .local => let i := G.N.idxOf x; if G.N[i]? = some x then some i else none
  | _ => none
/-- which names are stored in the other order -/
def swpB (G : Gx) (ts vs : List Expr) : Option (Option (List Str)) :=
  if (!(ts.length == 2 || ts.length == 3) || vs.length != ts.length) = true then some none
  else if G.sc.kind = .function then
    if (vs.any isStar) = true then some none
    else
      let line := (ts.head?.map (·.pos.line)).getD 0
      let names := ts.filterMap fun
        | .Name id pos => if G.sc.names.lookup id == some .local && pos.line == line then some id else none
        | _ => none
      if (names.length != ts.length || names.eraseDups.length != names.length) = true then some none
      else if vs.all (foldedForSure 8) = true then some none
      else if vs.all (constantsAlone 8) = true then none else some (some names)
  else none
section
variable {w : Wi} {X : Cx} {G : Gx}
theorem swB_ok (c : CxP w X G) {x : Str} {p : Pos} {e : Expr} {b : Bool} {line : Nat} (h : swB G x p e = some b) : swapsWith e (some (.Name x p)) line X.env = pure b := by
  cases e with
  | ListComp elt gens scope q =>
    unfold swB at h
    rcases ite_some h with ⟨hk, k⟩ | ⟨_, k⟩
    · cases k
      show (pure (X.env.blockKind == .function && X.env.kindOf x == some .local && p.line == q.line && !(scope.names.any fun (n, k) => n == x && (k == .local || k == .cell))) : Sem Bool) = _
      have e1 : X.env.blockKind = .function := by
        unfold Env.blockKind
        rw [c.sc, hk]
        rfl
      have e2 : X.env.kindOf x = G.sc.names.lookup x := by
        show X.env.scope.names.lookup x = _
        rw [c.sc]
      rw [e1, e2]
      rfl
    · cases k
  | SetComp => cases h
  | DictComp => cases h
  | _ => cases h; rfl
theorem swap0 {e : Expr} (h : isComp e = false) {t : Option Expr} {line : Nat} {env : Env} : swapsWith e t line env = pure false := by
  cases e <;> first | rfl | cases h
theorem swapT {e : Expr} {es : List Expr} {k : Nat} {p : Pos} {line : Nat} {env : Env} : swapsWithSole [.Tuple es k p] e line env = pure false := by
  cases e <;> rfl
theorem swapX {e a i : Expr} {p : Pos} {line : Nat} {env : Env} : swapsWithSole [.Subscript a i p] e line env = pure false := by
  cases e <;> rfl
def isTup : Expr → Bool
  | .Tuple _ _ _ => true
  | _ => false
theorem swpT {e : Expr} {es : List Expr} {k : Nat} {p : Pos} {env : Env} (h : isTup e = false) : swappedStores [.Tuple es k p] e env = pure none := by
  cases e <;> first | rfl | cases h
theorem swpX {e a i : Expr} {p : Pos} {env : Env} : swappedStores [.Subscript a i p] e env = pure none := by
  cases e <;> rfl
theorem swpB_ok (c : CxP w X G) {ts vs : List Expr} {k k2 : Nat} {p p2 : Pos} {r : Option (List Str)} (h : swpB G ts vs = some r) : swappedStores [.Tuple ts k p] (.Tuple vs k2 p2) X.env = pure r := by
  unfold swpB at h
  rw [← c.sc] at h
  have e1 : X.env.scope.kind = .function → X.env.blockKind = .function := fun hk => by
    unfold Env.blockKind
    rw [hk]
    rfl
  unfold swappedStores
  dsimp only
  rcases ite_some h with ⟨h1, k1⟩ | ⟨h1, k1⟩
  · cases k1
    exact if_pos (by rw [h1]; rfl)
  have h1 : (!(ts.length == 2 || ts.length == 3) || vs.length != ts.length) = false := by simpa using h1
  rcases ite_some k1 with ⟨h2, k2⟩ | ⟨_, k2⟩
  · refine (if_neg (by rw [h1, e1 h2]; decide)).trans ?_
    rcases ite_some k2 with ⟨h3, k3⟩ | ⟨h3, k3⟩
    · cases k3
      exact if_pos h3
    refine (if_neg h3).trans ?_
    dsimp only at k3
    rcases ite_some k3 with ⟨h4, k4⟩ | ⟨h4, k4⟩
    · cases k4
      exact if_pos h4
    refine (if_neg h4).trans ?_
    rcases ite_some k4 with ⟨h5, k5⟩ | ⟨h5, k5⟩
    · cases k5
      exact if_pos h5
    refine (if_neg h5).trans ?_
    rcases ite_some k5 with ⟨h6, k6⟩ | ⟨h6, k6⟩
    · cases k6
    refine (if_neg h6).trans ?_
    cases k6
    rfl
  · cases k2
end

/-! ### statements -/
def esrF (f : Expr → Option (M Hd)) (e : Expr) : Option (M Hd) := (f e).map mEsr
def asgNm (d : Den) (G : Gx) (x : Str) (p : Pos) (e : Expr) : Option (M Fl) := match swB G x p e with
  | some false => (match slotS G x, d.E G e with
    | some i, some m => some (mSet i m)
    | _, _ => none)
  | some true => (match localS G x, e with
    | some i, .ListComp elt gens scope _ => (compE d G elt gens scope).map (mSet i)
    | _, _ => none)
  | none => none
def par2E (d : Den) (G : Gx) (x y : Str) (px py : Pos) (a b : Expr) : Option (M Fl) := match localS G x, localS G y, denL (esrF (d.E G)) [a, b] with
  | some i, some j, some ms => if i ≠ j ∧ swpB G [.Name x px, .Name y py] [a, b] = some (some [x, y]) then some (mPar [i, j] ms) else none
  | _, _, _ => none
def par3E (d : Den) (G : Gx) (x y z : Str) (px py pz : Pos) (a b c : Expr) : Option (M Fl) := match localS G x, localS G y, localS G z, denL (esrF (d.E G)) [a, b, c] with
  | some i, some j, some l, some ms => if i ≠ j ∧ i ≠ l ∧ j ≠ l ∧ swpB G [.Name x px, .Name y py, .Name z pz] [a, b, c] = some (some [x, y, z]) then some (mPar [i, j, l] ms) else none
  | _, _, _, _ => none
def parN (d : Den) (G : Gx) (ts vs : List Expr) : Option (M Fl) := match denNs G ts, denL (esrF (d.E G)) vs with
  | some is, some ms => if is.length ≤ lim then some (mPar is ms) else none
  | _, _ => none
def parE (d : Den) (G : Gx) (ts vs : List Expr) : Option (M Fl) := match swpB G ts vs with
  | some none => parN d G ts vs
  | some (some _) => (match ts, vs with
    | [.Name x px, .Name y py], [a, b] => par2E d G x y px py a b
    | [.Name x px, .Name y py, .Name z pz], [a, b, c] => par3E d G x y z px py pz a b c
    | _, _ => none)
  | none => none
def isSlice : Expr → Bool
  | .Slice _ _ _ _ => true
  | _ => false
def storeE (d : Den) (G : Gx) (x : Str) (i e : Expr) : Option (M Fl) := if okName x = true ∧ isSlice i = false then (match slotE G x, d.E G i, d.E G e with
  | some k, some mi, some me => some (mStore k mi me)
  | _, _, _ => none) else none
def asgE (d : Den) (G : Gx) (ts : List Expr) (e : Expr) : Option (M Fl) := match ts with
  | [.Name x p] => asgNm d G x p e
  | [.Tuple es k p] => (match e with
    | .Tuple vs _ _ => parE d G es vs
    | _ => (match denG G (.Tuple es k p), d.E G e with
      | some t, some m => some (mAsg t m)
      | _, _ => none))
  | [.Subscript (.Name x _) i _] => storeE d G x i e
  | _ => none
/-- x.append(a) -/
def appE (d : Den) (G : Gx) (x at_ : Str) (apos cpos : Pos) (args : List Expr) : Option (M Fl) := match args with
  | [a] => if at_ = "append" ∧ okName x = true ∧ isStar a = false ∧ (apos.endLine == cpos.line) = true then (match slotE G x, d.E G a with
    | some k, some m => some (mApp k m)
    | _, _ => none) else none
  | _ => none
def dropE (d : Den) (G : Gx) (e : Expr) : Option (M Fl) := if isComp e = true then none else (d.E G e).map mDrop
def exprE (d : Den) (G : Gx) (e : Expr) : Option (M Fl) := match e with
  | .Constant (.str _) _ _ => some (mFl .next)
  | .Call (.Attribute (.Name x _) at_ apos) args [] cpos => appE d G x at_ apos cpos args
  | e => dropE d G e
def denBlk (f : Stmt → Option (M Fl)) : List Stmt → Option (List (M Fl))
  | [] => some []
  | s :: ss => match f s, denBlk f ss with
    | some m, some ms => some (m :: ms)
    | _, _ => none
/-- for, over names of defs -/
def forEF (f : Stmt → Option (M Fl)) (G : Gx) (tg iter : Expr) (body : List Stmt) : Option (M Fl) := match tg, iter with
  | .Name y _, .Tuple es _ _ => if es.length ≤ 1000 then (match slotS G y, fnNs G es, denBlk f body with
    | some i, some (g :: gs), some ms => some (mForF i (g :: gs) (mBlk ms))
    | _, _, _ => none) else none
  | _, _ => none
def forE (d : Den) (f : Stmt → Option (M Fl)) (G : Gx) (tg iter : Expr) (body orelse : List Stmt) : Option (M Fl) := match orelse with
  | [] => (match forEF f G tg iter body with
    | some m => some m
    | none => if isSet iter = true then none else (match d.I G tg iter, denG G tg, denBlk f body with
      | some mi, some t, some ms => some (mFor mi t (mBlk ms))
      | _, _, _ => none))
  | _ => none
def whileE (d : Den) (f : Stmt → Option (M Fl)) (G : Gx) (c : Expr) (body orelse : List Stmt) : Option (M Fl) := match orelse with
  | [] => (match d.T G c, denBlk f body with
    | some mc, some ms => some (mWhile 18446744073709551616 mc (mBlk ms))
    | _, _ => none)
  | _ => none
def ifS (d : Den) (f : Stmt → Option (M Fl)) (G : Gx) (c : Expr) (a b : List Stmt) : Option (M Fl) := match d.T G c, denBlk f a, denBlk f b with
  | some mc, some ma, some mb => some (mIfS mc (mBlk ma) (mBlk mb))
  | _, _, _ => none
/-- raise Cls("text") -/
def mRaise (x : Str) : M Fl := fun ρ => .exc ⟨x, none⟩ ρ
def raiseE (G : Gx) (e : Expr) : Option (M Fl) := match e with
  | .Call (.Name x _) [.Constant (.str _) _ _] [] _ => (match glob G x with
    | some .cls => some (mRaise x)
    | _ => none)
  | _ => none
def stmtE (d : Den) (f : Stmt → Option (M Fl)) (G : Gx) : Stmt → Option (M Fl)
  | .Return none _ => some (mFl (.ret (.fz .none)))
  | .Return (some e) _ => (d.E G e).map mRet
  | .Assign ts e _ => asgE d G ts e
  | .For tg iter body orelse _ => forE d f G tg iter body orelse
  | .While c body orelse _ => whileE d f G c body orelse
  | .If c a b _ => ifS d f G c a b
  | .Expr e _ => exprE d G e
  | .Raise (some e) none _ => raiseE G e
  | .Pass _ => some (mFl .next)
  | .Break _ => some (mFl .brk)
  | .Continue _ => some (mFl .cont)
  | _ => none
def denS (d : Den) (G : Gx) : Nat → Stmt → Option (M Fl)
  | 0 => fun _ => none
  | n + 1 => stmtE d (denS d G n) G
/-- x = [e for ..], each e a new list: which slot, and the lists -/
def gridC (d : Den) (G : Gx) (x : Str) (p : Pos) (e : Expr) : Option (Nat × (List Nat × M (List D) × Tg × M Hd)) := match e with
  | .ListComp elt [⟨tg, iter, [], a⟩] scope q => if a = 0 ∧ isSet iter = false ∧ blkC G.N G.sc scope (ownE G scope) = true ∧ swB G x p (.ListComp elt [⟨tg, iter, [], a⟩] scope q) = some true then
    (match localS G x, d.I G tg iter, denG (G.blk scope) tg, d.E (G.blk scope) elt with
    | some i, some mi, some t, some me => if (t.slots.all fun i => ((ownE G scope).map (·.2)).contains i) = true then some (i, ((ownE G scope).map (·.2), mi, t, me)) else none
    | _, _, _, _ => none) else none
  | _ => none
/-- x[i][j] = e -/
def gridS (d : Den) (G : Gx) (x : Str) (k : Nat) (s : Stmt) : Option MG := match s with
  | .Assign [.Subscript (.Subscript (.Name y _) i _) j _] e _ => if y = x ∧ okName x = true ∧ isSlice i = false ∧ isSlice j = false ∧ slotE G x = some k then (match d.E G i, d.E G j, d.E G e with
    | some mi, some mj, some me => some (mGst mi mj me)
    | _, _, _ => none) else none
  | _ => none
def gridI (d : Den) (G : Gx) (x : Str) (k : Nat) (s : Stmt) : Option MG := match s with
  | .If c [s] [] _ => (match d.T G c, gridS d G x k s with
    | some mc, some m => some (mGif mc m)
    | _, _ => none)
  | s => gridS d G x k s
def gridB (d : Den) (G : Gx) (s1 s2 s3 : Stmt) : Option (M Fl) := match s1 with
  | .Assign [.Name x p] e _ => (match gridC d G x p e with
    | some (k, c) => (match gridI d G x k s2, gridI d G x k s3 with
      | some b1, some b2 => some (mGrid k (mGC c.1 c.2.1 c.2.2.1 c.2.2.2) b1 b2)
      | _, _ => none)
    | none => none)
  | _ => none
def denTop (f : Stmt → Option (M Fl)) (g : Stmt → Stmt → Stmt → Option (M Fl)) : List Stmt → Option (List (M Fl))
  | [] => some []
  | [s] => (match f s with
    | some m => some [m]
    | none => none)
  | [s, t] => (match f s, f t with
    | some m, some n => some [m, n]
    | _, _ => none)
  | s :: t :: u :: ss => (match g s t u with
    | some m => (match denTop f g ss with
      | some ms => some (m :: ms)
      | none => none)
    | none => (match f s, denTop f g (t :: u :: ss) with
      | some m, some ms => some (m :: ms)
      | _, _ => none))
/-- a def's body -/
def denD (G : Gx) (body : List Stmt) : Option (M Fl) := (denTop (denS (den 40) G 12) (gridB (den 40) G) body).map mBlk
end Pu
set_option Elab.async false
set_option linter.all false
set_option maxRecDepth 100000
set_option maxHeartbeats 2000000
/-! Pu18: the pure layer: what is read off the text is what it does (statements). -/
namespace Pu
open PySem L2 PyProof.Rows
section
variable {w : Wi} {X : Cx} {G : Gx} {d : Den} {m : M Fl}
theorem localS_some (c : CxP w X G) {x : Str} {i : Nat} (h : localS G x = some i) : X.N[i]? = some x ∧ X.env.scope.names.lookup x = some .local := by
  unfold localS at h
  rw [c.nn, c.sc]
  split at h
  · rename_i e
    rcases ite_some h with ⟨e2, k⟩ | ⟨_, k⟩
    · cases k; exact ⟨e2, e⟩
    · cases k
  · cases h
theorem asgNm_ok (D : DenOk d) (c : CxP w X G) {x : Str} {p pos : Pos} {e : Expr} (h : asgNm d G x p e = some m) : PS X (.Assign [.Name x p] e pos) (tS w m) := by
  unfold asgNm at h
  split at h
  · rename_i hb
    split at h
    · rename_i i m' e1 e2
      cases h
      obtain ⟨h1, h2, h3⟩ := slotS_some c e1
      exact ss_set c.nd h1 h2 (D.E c e2) (swB_ok c hb) h3
    · cases h
  · rename_i hb
    split at h
    · rename_i i elt gens scope q e1
      obtain ⟨mc', e2, rfl⟩ := Option.map_eq_some_iff.mp h
      obtain ⟨g1, g2⟩ := localS_some c e1
      have sw := swB_ok c (line := pos.line) hb
      unfold compE at e2
      split at e2
      · split at e2
        · rename_i m' ef
          cases e2
          obtain ⟨y, py, es, k, tp, ifs, i, fs, mc, me, e, rfl, h1, h2, h3, h4, h5, h6, h7⟩ := compF_facts D c ef
          rw [e] at sw ⊢
          exact ss_setLcF c.kd c.calm c.nd g1 g2 sw h1 h2 h3 h4 h5 h6 h7
        split at e2
        · rename_i m' eo
          cases e2
          obtain ⟨tg, x, px, ifs, j, t, mc, me, e, rfl, h1, h2, h3, h4, h5, h6, h7, h8, h9⟩ := compO_facts D c eo
          rw [e] at sw ⊢
          exact ss_setLcO c.kd h1 h2 h3 h4 c.calm c.nd g1 g2 sw h5 h6 h7 h8 h9 (notSet rfl _)
        · obtain ⟨tg, iter, ifs, mi, t, mc, me, e, rfl, h1, h2, h3, h4, h5, h6, h7⟩ := comp_facts D c e2
          rw [e] at sw ⊢
          exact ss_setLc c.calm c.nd g1 g2 sw h1 h2 h3 h4 h5 h6 h7
      · obtain ⟨tg, iter, ifs, mi, t, mc, tg1, iter1, ifs1, mi1, t1, mc1, me, e, rfl, h1, h2, h3, h4, h5, h6, h7, h8, h9, h10, h11, h12⟩ := comp2_facts D c e2
        rw [e] at sw ⊢
        exact ss_setLc2 c.calm c.nd g1 g2 sw h1 h2 h3 h4 h5 h6 h7 h8 h9 h10 h11 h12
    · cases h
  · cases h
theorem denNs_gn (c : CxP w X G) : ∀ {es : List Expr} {is : List Nat}, denNs G es = some is → PGs X es (gNs is)
  | [], is, h => by cases h; exact gns_nil
  | .Name x p :: es, is, h => by
    have h : (match slotS G x, denNs G es with
      | some i, some is => some (i :: is)
      | _, _ => none) = some is := h
    split at h
    · rename_i i is' e1 e2
      cases h
      obtain ⟨h1, h2, h3⟩ := slotS_some c e1
      exact gns_cons (pg_name c.nd h1 h2 h3) (denNs_gn c e2) rfl
    · cases h
  | .BoolOp .. :: _, _, h | .NamedExpr .. :: _, _, h | .BinOp .. :: _, _, h | .UnaryOp .. :: _, _, h | .Lambda .. :: _, _, h | .IfExp .. :: _, _, h | .Dict .. :: _, _, h | .Set .. :: _, _, h | .ListComp .. :: _, _, h | .SetComp .. :: _, _, h | .DictComp .. :: _, _, h | .GeneratorExp .. :: _, _, h
  | .Await .. :: _, _, h | .Yield .. :: _, _, h | .YieldFrom .. :: _, _, h | .Compare .. :: _, _, h | .Call .. :: _, _, h | .FormattedValue .. :: _, _, h | .JoinedStr .. :: _, _, h | .Constant .. :: _, _, h | .Attribute .. :: _, _, h | .Subscript .. :: _, _, h | .Starred .. :: _, _, h | .List .. :: _, _, h | .Tuple .. :: _, _, h | .Slice .. :: _, _, h => by cases h
theorem esrF_ok (D : DenOk d) (c : CxP w X G) {e : Expr} {m : M Hd} (h : esrF (d.E G) e = some m) : PE X e (tK w m) := by
  obtain ⟨ma, e1, rfl⟩ := Option.map_eq_some_iff.mp h
  exact se_esr (D.E c e1)
theorem den_pa (D : DenOk d) (c : CxP w X G) {es : List Expr} {ms : List (M Hd)} (h : denL (esrF (d.E G)) es = some ms) : PA X es (tA w (mArgs ms)) := denL_pa (fun e m => esrF_ok D c) h
theorem parN_ok (D : DenOk d) (c : CxP w X G) {ts vs : List Expr} {pt pos p2 : Pos} {k k2 : Nat} (hr : swpB G ts vs = some none) (h : parN d G ts vs = some m) : PS X (.Assign [.Tuple ts k pt] (.Tuple vs k2 p2) pos) (tS w m) := by
  unfold parN at h
  split at h
  · rename_i is ms e1 e2
    rcases ite_some h with ⟨hl, q⟩ | ⟨_, q⟩
    · cases q
      obtain ⟨h1, h2, h3⟩ := denNs_ok c e1
      exact ss_parN hl c.calm (den_pa D c e2) (denNs_gn c e1) h2 h3 swapT (swpB_ok c hr) rfl
    · cases q
  · cases h
theorem par2E_ok (D : DenOk d) (c : CxP w X G) {x y : Str} {px py pt pos p2 : Pos} {a b : Expr} {k k2 : Nat} (h : par2E d G x y px py a b = some m) : PS X (.Assign [.Tuple [.Name x px, .Name y py] k pt] (.Tuple [a, b] k2 p2) pos) (tS w m) := by
  unfold par2E at h
  split at h
  · rename_i i j ms e1 e2 e3
    rcases ite_some h with ⟨⟨hl, hs⟩, q⟩ | ⟨_, q⟩
    · cases q
      obtain ⟨a1, a2⟩ := localS_some c e1
      obtain ⟨b1, b2⟩ := localS_some c e2
      exact ss_par2 c.calm c.nd a1 b1 hl a2 b2 (den_pa D c e3) (swpB_ok c hs) swapT
    · cases q
  · cases h
theorem par3E_ok (D : DenOk d) (c : CxP w X G) {x y z : Str} {px py pz pt pos p2 : Pos} {a b e : Expr} {k k2 : Nat} (h : par3E d G x y z px py pz a b e = some m) : PS X (.Assign [.Tuple [.Name x px, .Name y py, .Name z pz] k pt] (.Tuple [a, b, e] k2 p2) pos) (tS w m) := by
  unfold par3E at h
  split at h
  · rename_i i j l ms e1 e2 e3 e4
    rcases ite_some h with ⟨⟨h1, h2, h3, hs⟩, q⟩ | ⟨_, q⟩
    · cases q
      obtain ⟨a1, a2⟩ := localS_some c e1
      obtain ⟨b1, b2⟩ := localS_some c e2
      obtain ⟨c1, c2⟩ := localS_some c e3
      exact ss_par3 c.calm c.nd a1 b1 c1 h1 h2 h3 a2 b2 c2 (den_pa D c e4) (swpB_ok c hs) swapT
    · cases q
  · cases h
theorem parE_ok (D : DenOk d) (c : CxP w X G) {ts vs : List Expr} {pt pos p2 : Pos} {k k2 : Nat} (h : parE d G ts vs = some m) : PS X (.Assign [.Tuple ts k pt] (.Tuple vs k2 p2) pos) (tS w m) := by
  unfold parE at h
  split at h
  · rename_i hr
    exact parN_ok D c hr h
  · split at h
    · exact par2E_ok D c h
    · exact par3E_ok D c h
    · cases h
  · cases h
theorem storeE_ok (D : DenOk d) (c : CxP w X G) {x : Str} {i e : Expr} {px ps pos : Pos} (h : storeE d G x i e = some m) : PS X (.Assign [.Subscript (.Name x px) i ps] e pos) (tS w m) := by
  unfold storeE at h
  rcases ite_some h with ⟨⟨ho, hs⟩, q⟩ | ⟨_, q⟩
  · obtain ⟨k1, k2, k3⟩ := okName_of ho
    split at q
    · rename_i k mi me e1 e2 e3
      cases q
      obtain ⟨g1, g2⟩ := slotE_some c e1
      exact ss_store g1 g2 k1 k2 (D.E c e2) (D.E c e3) (fun v => by cases i <;> first | rfl | cases hs) swapX swpX rfl
    · cases q
  · cases q
theorem asgE_ok (D : DenOk d) (c : CxP w X G) {ts : List Expr} {e : Expr} {pos : Pos} (h : asgE d G ts e = some m) : PS X (.Assign ts e pos) (tS w m) := by
  unfold asgE at h
  split at h
  · exact asgNm_ok D c h
  · rename_i es k p
    split at h
    · exact parE_ok D c h
    · rename_i n
      split at h
      · rename_i t m' e1 e2
        cases h
        refine ss_asg (D.E c e2) (denG_ok c e1) swapT (swpT ?_) rfl
        cases e <;> first | rfl | exact absurd rfl (n _ _ _)
      · cases h
  · exact storeE_ok D c h
  · cases h
theorem appE_ok (D : DenOk d) (c : CxP w X G) {x at_ : Str} {args : List Expr} {px apos cpos pos : Pos} (h : appE d G x at_ apos cpos args = some m) : PS X (.Expr (.Call (.Attribute (.Name x px) at_ apos) args [] cpos) pos) (tS w m) := by
  unfold appE at h
  split at h
  · rename_i a
    rcases ite_some h with ⟨⟨h1, ho, hs, hl⟩, q⟩ | ⟨_, q⟩
    · obtain ⟨k1, k2, k3⟩ := okName_of ho
      subst h1
      split at q
      · rename_i k m' e1 e2
        cases q
        obtain ⟨g1, g2⟩ := slotE_some c e1
        exact ss_app g1 g2 k1 k2 (D.E c e2) (star_cons hs) rfl (by rw [star_cons hs]; rfl) hl rfl (swap0 rfl)
      · cases q
    · cases q
  · cases h
theorem dropE_ok (D : DenOk d) (c : CxP w X G) {e : Expr} {pos : Pos} (h : dropE d G e = some m) : PS X (.Expr e pos) (tS w m) := by
  unfold dropE at h
  split at h
  · cases h
  · rename_i hc
    obtain ⟨m', e1, rfl⟩ := Option.map_eq_some_iff.mp h
    exact ss_drop (D.E c e1) (swap0 (by simpa using hc))
theorem exprE_ok (D : DenOk d) (c : CxP w X G) {e : Expr} {pos : Pos} (h : exprE d G e = some m) : PS X (.Expr e pos) (tS w m) := by
  unfold exprE at h
  split at h
  · cases h; exact ss_doc
  · exact appE_ok D c h
  · exact dropE_ok D c h
def SOk (w : Wi) (X : Cx) (f : Stmt → Option (M Fl)) : Prop := ∀ {s : Stmt} {m : M Fl}, f s = some m → PS X s (tS w m)
theorem denBlk_ok {f : Stmt → Option (M Fl)} (hf : SOk w X f) : ∀ {ss : List Stmt} {ms : List (M Fl)}, denBlk f ss = some ms → PSs X ss (tS w (mBlk ms))
  | [], ms, h => by cases h; exact ss_nil
  | s :: ss, ms, h => by
    unfold denBlk at h
    split at h
    · rename_i m' ms' e1 e2
      cases h
      exact ss_cons (hf e1) (denBlk_ok hf e2)
    · cases h
theorem raiseE_ok (c : CxP w X G) {e : Expr} {pos : Pos} (h : raiseE G e = some m) : PS X (.Raise (some e) none pos) (tS w m) := by
  unfold raiseE at h
  split at h
  · split at h
    · rename_i e1
      cases h
      obtain ⟨g1, ⟨_, _, C, g2, g3, g4, g5, g5', g6⟩, g7⟩ := glob_some c e1
      refine PSimp (L2N.ps_raise c.calm c.tk (L2N.pmk_own PySem.F.excBase_ValueError g3 g2 g4 (raises_own g5 g5') g1 (okName_of g7).1)) fun D σ H ⟨F, ρ, S, q⟩ => ?_
      exact q (.ref C) none σ F H (.refl S) (g6 H)
    · cases h
  · cases h
theorem stmtE_ok {f : Stmt → Option (M Fl)} (D : DenOk d) (c : CxP w X G) (hp : PassesOwn (model X.prog X.w) X.A X.env X.xe) (hf : SOk w X f) {s : Stmt} (h : stmtE d f G s = some m) : PS X s (tS w m) := by
  cases s with
  | Return v p =>
    cases v with
    | none => cases h; exact ss_retN
    | some e =>
      obtain ⟨m', e1, rfl⟩ := Option.map_eq_some_iff.mp (show (d.E G e).map mRet = some m from h)
      exact ss_ret (D.E c e1)
  | Assign ts e p => exact asgE_ok D c h
  | For tg iter body orelse p =>
    have h : forE d f G tg iter body orelse = some m := h
    unfold forE at h
    split at h
    · split at h
      · rename_i m' ef
        cases h
        unfold forEF at ef
        split at ef
        · split at ef
          · rename_i hl
            split at ef
            · rename_i i g gs ms e1 e2 e3
              cases ef
              obtain ⟨g1, g2, g3⟩ := slotS_some c e1
              exact ss_forF c.kd hp c.calm c.nd g1 g2 g3 (fnNs_ok c e2) (by rw [fnNs_len e2]; exact hl) (denBlk_ok hf e3)
            · cases ef
          · cases ef
        · cases ef
      split at h
      · cases h
      · rename_i hs
        split at h
        · rename_i mi t ms e1 e2 e3
          cases h
          exact ss_for hp c.calm (D.I c e1) (denG_ok c e2) (denBlk_ok hf e3) (notSet (by simpa using hs) _)
        · cases h
    · cases h
  | While t body orelse p =>
    have h : whileE d f G t body orelse = some m := h
    unfold whileE at h
    split at h
    · split at h
      · rename_i mc ms e1 e2
        cases h
        exact ss_while hp (D.T c e1) (denBlk_ok hf e2)
      · cases h
    · cases h
  | If t a b p =>
    have h : ifS d f G t a b = some m := h
    unfold ifS at h
    split at h
    · rename_i mc ma mb e1 e2 e3
      cases h
      exact ss_if (D.T c e1) (denBlk_ok hf e2) (denBlk_ok hf e3)
    · cases h
  | Expr e p => exact exprE_ok D c h
  | Raise e f p =>
    cases e with
    | none => cases h
    | some e =>
      cases f with
      | none => exact raiseE_ok c h
      | some f => cases h
  | Pass p => cases h; exact ss_pass
  | Break p => cases h; exact ss_break
  | Continue p => cases h; exact ss_continue
  | _ => cases h
theorem denS_ok (D : DenOk d) (c : CxP w X G) (hp : PassesOwn (model X.prog X.w) X.A X.env X.xe) : ∀ n, SOk w X (denS d G n)
  | 0 => fun h => by cases h
  | n + 1 => fun h => stmtE_ok D c hp (denS_ok D c hp n) h
theorem plain_ixB {i : Expr} (h : isSlice i = false) : PlainIx i := by
  cases i <;> first | exact (fun _ _ => rfl) | cases h
theorem asg_ixB {a j : Expr} {p : Pos} {env : Env} {v : Value} (h : isSlice j = false) : assign (.Subscript a j p) env v = (do
      let ov ← holding [v] (eval a env)
      let iv ← holding [v, ov] (eval j env)
      standAt p
      holding [v, ov, iv] (setItem ov iv v)
      release [v, ov, iv] []) := by
  cases j <;> first | rfl | cases h
theorem gridS_ok (D : DenOk d) (c : CxP w X G) {x : Str} {k : Nat} {s : Stmt} {b : MG} (h : gridS d G x k s = some b) : PS X s (tGS w k b) := by
  unfold gridS at h
  split at h
  · rcases ite_some h with ⟨⟨h1, h2, h3, h4, h5⟩, q⟩ | ⟨_, q⟩
    · subst h1
      obtain ⟨k1, k2, k3⟩ := okName_of h2
      obtain ⟨g1, g2⟩ := slotE_some c h5
      split at q
      · rename_i mi mj me e1 e2 e3
        cases q
        refine ss_gst g1 g2 k1 k2 (D.E c e1) (plain_ixB h3) (D.E c e2) (D.E c e3) (fun v => ?_) swapX swpX rfl
        exact asg_ixB h4
      · cases q
    · cases q
  · cases h
theorem gridI_ok (D : DenOk d) (c : CxP w X G) {x : Str} {k : Nat} {s : Stmt} {b : MG} (h : gridI d G x k s = some b) : PS X s (tGS w k b) := by
  unfold gridI at h
  split at h
  · split at h
    · rename_i e1 e2
      cases h
      exact ss_gif (D.T c e1) (gridS_ok D c e2)
    · cases h
  · exact gridS_ok D c h
theorem gridC_ok (D : DenOk d) (c : CxP w X G) {x : Str} {p pos : Pos} {e : Expr} {k : Nat} {r : List Nat × M (List Pu.D) × Tg × M Hd} (h : gridC d G x p e = some (k, r)) :
    (∀ i ∈ r.2.2.1.slots, i ∈ r.1) ∧ PS X (.Assign [.Name x p] e pos) (tAsg (tLc (tI w r.2.1) (tG w.blk r.2.2.1) (tT w.blk (mC (.bool true))) (tK w.blk r.2.2.2) r.1) (gName k)) := by
  unfold gridC at h
  split at h
  · rename_i elt tg iter a scope q
    rcases ite_some h with ⟨⟨h1, h2, h3, h4⟩, z⟩ | ⟨_, z⟩
    · split at z
      · rename_i i mi t me e1 e2 e3 e4
        split at z
        · rename_i ha
          cases z
          subst h1
          obtain ⟨g1, g2⟩ := localS_some c e1
          refine ⟨fun i hi => ?_, ps_setLc c.calm c.nd g1 g2 (swB_ok c h4) (D.I c e2) ?_ (fun s H C cl fp => denG_ok (c.blk scope s H C cl fp) e3) (fun s H C cl fp => sts_nil) (fun s H C cl fp => D.E (c.blk scope s H C cl fp) e4) (notSet h2 _)⟩
          · have z := List.all_eq_true.mp ha i hi
            simpa using z
          · rw [c.nn, c.sc]
            exact blkOk_by h3
        · cases z
      · cases z
    · cases z
  · cases h
theorem denTop_ok {f : Stmt → Option (M Fl)} (D : DenOk d) (c : CxP w X G) (hf : SOk w X f) : ∀ {ss : List Stmt} {ms : List (M Fl)}, denTop f (gridB d G) ss = some ms → PSs X ss (tS w (mBlk ms))
  | [], ms, h => by cases h; exact ss_nil
  | [s], ms, h => by
    unfold denTop at h
    split at h
    · rename_i m e1
      cases h
      exact ss_cons (hf e1) ss_nil
    · cases h
  | [s, t], ms, h => by
    unfold denTop at h
    split at h
    · rename_i m n e1 e2
      cases h
      exact ss_cons (hf e1) (ss_cons (hf e2) ss_nil)
    · cases h
  | s :: t :: u :: ss, ms, h => by
    unfold denTop at h
    split at h
    · rename_i m eg
      split at h
      · rename_i ms' e1
        cases h
        have ih := denTop_ok D c hf e1
        unfold gridB at eg
        split at eg
        · split at eg
          · rename_i k r ec
            split at eg
            · rename_i b1 b2 e2 e3
              cases eg
              obtain ⟨g1, g2⟩ := gridC_ok D c ec
              exact sss_grid g1 g2 (gridI_ok D c e2) (gridI_ok D c e3) ih
            · cases eg
          · cases eg
        · cases eg
      · cases h
    · split at h
      · rename_i m ms' e1 e2
        cases h
        exact ss_cons (hf e1) (denTop_ok D c hf e2)
      · cases h
theorem denD_ok (c : CxP w X G) (hp : PassesOwn (model X.prog X.w) X.A X.env X.xe) {body : List Stmt} (h : denD G body = some m) : PSs X body (tS w m) := by
  obtain ⟨ms, e1, rfl⟩ := Option.map_eq_some_iff.mp h
  exact denTop_ok (den_ok 40) c (denS_ok (den_ok 40) c hp 12) e1
end
end Pu
set_option Elab.async false
set_option linter.all false
set_option maxRecDepth 100000
set_option maxHeartbeats 2000000
/-! Pu19: the pure layer: a def's promise, read off its text. -/
namespace Pu
open PySem L2 PyProof.Rows
theorem mem_of_look {α β : Type} [BEq β] [LawfulBEq β] {x : β} {g : α} : ∀ {l : List (β × α)}, l.lookup x = some g → (x, g) ∈ l
  | [], h => by cases h
  | (y, v) :: r, h => by
    rw [List.lookup_cons] at h
    split at h
    · rename_i e
      cases h
      have : x = y := by simpa using e
      rw [this]
      exact List.mem_cons_self
    · exact List.mem_cons_of_mem _ (mem_of_look h)
section
variable {P : Program} {w : World} {K : PySem.W.Frag} {mg : Str → Option Value} {base : Heap} {XR : Exn → Value → Option Addr → Hp → Prop}
theorem GvK.mono {j k : Nat} {x : Str} {g : Gv} (h : GvK P w K mg base XR j x g) (l : j ≤ k) : GvK P w K mg base XR k x g := by
  cases g with
  | fn n io pf =>
    obtain ⟨f, fd, ps, h1, h2, h3⟩ := h
    exact ⟨f, fd, ps, h1, h2.mono l, h3⟩
  | con d => exact h
  | blt => exact h
  | cls => exact h
  | tel ret ht => exact h
/-- the code object of the def x bears a table -/
def lamK (K : PySem.W.Frag) (x : Str) : Bool := match K.lookup (He.codeOf K (x, none)) with
  | some o => (codeP o).isSome
  | none => false
/-- what defs with lambdas ask -/
structure LamB (K : PySem.W.Frag) (mg : Str → Option Value) (base : Heap) (xs : List Str) : Prop where
  tb : ∀ p ∈ codesK K, LamX.TabB base mg p.1 p.2
  nd : ((codesK K).map (·.2)).Nodup
  ok : xs.all (lamK K) = true
theorem fn_denG {x qual : Str} {st : Stmt} {f : Addr} {fd : FuncData} {N ps : List Str} {k : Nat} {gl : List (Str × Gv)} {ow : List Str} {lam : Bool} {body : M Fl} (Fn : Fun K x qual st f fd) (S : FnScope N ps (defScope st)) (hg : ∀ p ∈ gl, GvK P w K mg base XR k p.1 p.2)
    (ht : ∀ cdv, PySem.W.codeIn K cdv qual = true → fd.code = cdv → lam = true → ∃ c P, cdv = .ref c ∧ LamX.TabB base mg c P ∧ (P, (qual ++ ".<locals>.") ++ "<lambda>") ∈ tabsK K ∧ ∀ p ∈ tabsK K, p.1 = P → p.2 = (qual ++ ".<locals>.") ++ "<lambda>")
    (hd : denD ⟨N, defScope st, fun _ => true, gl, lam, ow⟩ (defBody st) = some body) : FnOk P w K mg base (L2N.CX P w) (cond lam (k + 2) k + 1) f fd ps (spP K XR ps.length (pfOf N.length body)) := by
  refine fn_pure Fn S fun cdv A outer s H E hr hcd hfd => ?_
  refine denD_ok (G := ⟨N, defScope st, fun _ => true, gl, lam, ow⟩) ⟨rfl, rfl, S.nd, rfl, rfl, fun _ _ => rfl, ?_, L2N.takes_of rfl rfl rfl rfl, ⟨k, hr, fun y g h => hg (y, g) (mem_of_look h)⟩, fun hl => ?_⟩ (passes_of rfl) hd
  · have := hr.un
    show (A.deeper (envOfC qual (defScope st) s.heap.objs.size f cdv)).units + 70 < cLine
    omega
  · exact ht cdv hcd hfd hl
theorem nodup_fst {α β : Type} : ∀ {l : List (α × β)}, (l.map (·.1)).Nodup → ∀ {p q : α × β}, p ∈ l → q ∈ l → p.1 = q.1 → p = q
  | [], _, _, _, h, _, _ => by cases h
  | r :: l, n, p, q, hp, hq, e => by
    obtain ⟨n1, n2⟩ := List.nodup_cons.mp n
    rcases List.mem_cons.mp hp with e1 | hp'
    · rcases List.mem_cons.mp hq with e2 | hq'
      · exact e1.trans e2.symm
      · exact (n1 (List.mem_map.mpr ⟨q, hq', by rw [← e1]; exact e.symm⟩)).elim
    · rcases List.mem_cons.mp hq with e2 | hq'
      · exact (n1 (List.mem_map.mpr ⟨p, hp', by rw [← e2]; exact e⟩)).elim
      · exact nodup_fst n2 hp' hq' e
theorem tabs_fst : ∀ {K : PySem.W.Frag}, (tabsK K).map (·.1) = (codesK K).map (·.2)
  | [] => rfl
  | q :: K => by
    have ih := tabs_fst (K := K)
    unfold tabsK codesK at ih ⊢
    rw [List.filterMap_cons, List.filterMap_cons]
    cases codeP q.2 with
    | none => exact ih
    | some z => simp only [Option.map_some, List.map_cons, ih]
theorem fn_denL {x : Str} {st : Stmt} {f : Addr} {fd : FuncData} {N ps xs : List Str} {k : Nat} {gl : List (Str × Gv)} {ow : List Str} {body : M Fl} (B : LamB K mg base xs) (hx : x ∈ xs) (hf : f = He.ga K x) (Fn : Fun K x x st f fd) (S : FnScope N ps (defScope st)) (hg : ∀ p ∈ gl, GvK P w K mg base XR k p.1 p.2)
    (hd : denD ⟨N, defScope st, fun _ => true, gl, true, ow⟩ (defBody st) = some body) : FnOk P w K mg base (L2N.CX P w) (k + 2 + 1) f fd ps (spP K XR ps.length (pfOf N.length body)) := by
  refine fn_denG (lam := true) Fn S hg (fun cdv hcd hfd _ => ?_) hd
  obtain ⟨c, rfl⟩ := He.codeIn_ref hcd
  obtain ⟨oc, od, kV, doc, pm, an, cdv, ct, osl, efd, lk, _⟩ := Fn.ex
  have hco : He.codeOf K (x, none) = c := He.codeOf_eq (p := (x, none)) (by rw [show He.fAd K (x, none) = f from hf.symm]; exact lk) hfd
  have hl := List.all_eq_true.mp B.ok x hx
  unfold lamK at hl
  rw [hco] at hl
  have hcd := hcd
  unfold PySem.W.codeIn at hcd
  dsimp only at hcd
  cases ho : K.lookup c with
  | none => rw [ho] at hl; cases hl
  | some o =>
    rw [ho] at hl hcd
    obtain ⟨z, hz⟩ := Option.isSome_iff_exists.mp hl
    have hm : (c, o) ∈ K := mem_of_look ho
    have ht : z ∈ tabsK K := List.mem_filterMap.mpr ⟨(c, o), hm, hz⟩
    have hc : (c, z.1) ∈ codesK K := List.mem_filterMap.mpr ⟨(c, o), hm, by rw [show codeP (c, o).2 = some z from hz]; rfl⟩
    have hq : z.2 = (x ++ ".<locals>.") ++ "<lambda>" := by
      obtain ⟨oc', od', dat, osl'⟩ := o
      cases dat with
      | fields vs =>
        unfold codeP at hz
        dsimp only at hz hcd
        split at hz
        · rename_i n t P e2 e3
          cases hz
          split at hcd
          · rename_i q1 n' t' rest el
            have e4 : (vs[1]? : Option Value) = some (.str n' t') := by
              rw [← Array.getElem?_toList, el]; rfl
            rw [e2] at e4
            cases e4
            have : n = x := by simpa using hcd
            subst this
            rfl
          · cases hcd
        · cases hz
      | _ => cases hz
    refine ⟨c, z.1, rfl, B.tb _ hc, by rw [← hq]; exact ht, fun p hp e => ?_⟩
    have nd : ((tabsK K).map (·.1)).Nodup := by
      rw [tabs_fst]; exact B.nd
    rw [← hq]
    exact congrArg (·.2) (nodup_fst nd hp ht e)
theorem fn_den {x qual : Str} {st : Stmt} {f : Addr} {fd : FuncData} {N ps : List Str} {k : Nat} {gl : List (Str × Gv)} {ow : List Str} {body : M Fl} (Fn : Fun K x qual st f fd) (S : FnScope N ps (defScope st)) (hg : ∀ p ∈ gl, GvK P w K mg base XR k p.1 p.2)
    (hd : denD ⟨N, defScope st, fun _ => true, gl, false, ow⟩ (defBody st) = some body) : FnOk P w K mg base (L2N.CX P w) (k + 1) f fd ps (spP K XR ps.length (pfOf N.length body)) :=
  fn_denG (lam := false) Fn S hg (fun _ _ _ h => by cases h) hd
end
end Pu
set_option Elab.async false
set_option linter.all false
set_option maxRecDepth 100000
set_option maxHeartbeats 2000000
/-! Pu20: the pure layer: a law's end. -/
namespace Pu
open PySem L2 PyProof.Rows
/-! ### defs as the head tells them -/
section
variable {P : Program} {w : World} {K : PySem.W.Frag} {mg : Str → Option Value} {base : Heap} {XR : Exn → Value → Option Addr → Hp → Prop}
theorem fun_nodef {x qual : Str} {st : Stmt} {f : Addr} {fd : FuncData} {kws : List (Str × V)} (F : FunD K x qual (defArgs st) (defBody st) (defScope st) [] kws f fd) : Fun K x qual st f fd := by
  obtain ⟨o1, o2, dV, o3, o4, o5, o6, o7, o8, o9, e, lk, cd, hD, hW⟩ := F.ex
  have e2 : dV = .none := by
    rcases hD with ⟨_, q⟩ | ⟨n, _⟩
    · exact q
    · exact absurd rfl n
  rw [e2] at e
  exact ⟨⟨o1, o2, o3, o4, o5, o6, o7, o8, o9, e, lk, cd⟩, F.kp⟩
theorem fnok_bad {k n : Nat} {f : Addr} {fd : FuncData} {ps : List Str} : FnOk P w K mg base (L2N.CX P w) k f fd ps (spP K XR n fun _ => .bad) :=
  ⟨fun _ _ _ _ ⟨_, _, _, _, _, z⟩ => z.elim, fun _ _ _ _ _ _ _ _ _ _ _ _ _ ⟨_, _, _, _, _, z⟩ => z.elim⟩
end
theorem gl_nil {P : Program} {w : World} {K : PySem.W.Frag} {mg : Str → Option Value} {base : Heap} {XR : Exn → Value → Option Addr → Hp → Prop} {k : Nat} : ∀ p ∈ ([] : List (Str × Gv)), GvK P w K mg base XR k p.1 p.2 := fun _ h => by cases h
theorem gl_cons {P : Program} {w : World} {K : PySem.W.Frag} {mg : Str → Option Value} {base : Heap} {XR : Exn → Value → Option Addr → Hp → Prop} {k : Nat} {x : Str} {g : Gv} {gl : List (Str × Gv)} (h : GvK P w K mg base XR k x g) (t : ∀ p ∈ gl, GvK P w K mg base XR k p.1 p.2) : ∀ p ∈ ((x, g) :: gl), GvK P w K mg base XR k p.1 p.2 := fun p hp => by
  rcases List.mem_cons.mp hp with e | hp
  · rw [e]; exact h
  · exact t p hp
theorem gv_int {P : Program} {w : World} {K : PySem.W.Frag} {mg : Str → Option Value} {base : Heap} {XR : Exn → Value → Option Addr → Hp → Prop} {k : Nat} {x : Str} {i : Int} (h : ∃ t, mg x = some (.int i t)) : GvK P w K mg base XR k x (.con (.int i)) := by
  obtain ⟨t, e⟩ := h
  exact ⟨_, .int i, e, ⟨t, rfl⟩, fun F => .int i⟩
/-- which object an exception of the words is -/
def XRK (K : PySem.W.Frag) (x : Exn) (cls : Value) (d : Option Addr) (_ : Hp) : Prop := cls = .ref (He.ga K x.cls) ∧ x.val = none ∧ d = none
theorem gv_cls {P : Program} {w : World} {K : PySem.W.Frag} {mg : Str → Option Value} {base h : Heap} {k : Nat} {x : Str} (X : K.In h) (G : h.Ns mainGlobals mg) (c1 : (He.Fa.glo x).ok K = true) (c2 : (He.Fa.exc x).ok K = true) : GvK P w K mg base (XRK K) k x .cls := by
  obtain ⟨h1, h2, h3, h4⟩ := He.exc_ok c2
  exact ⟨He.ga K x, He.glo_ok X G c1, h1, h2, h3, h4, fun H => ⟨rfl, rfl, rfl⟩⟩
theorem gv_free {P : Program} {w : World} {K : PySem.W.Frag} {mg : Str → Option Value} {base : Heap} {XR : Exn → Value → Option Addr → Hp → Prop} {k : Nat} {x : Str} (h : mg x = none) : GvK P w K mg base XR k x .blt := h
/-! ### the hook: the head's facts, and that no list of the program's own is told of -/
def isL (o : Obj) : Bool := decide (o.cls = .type "list")
def noL (K : PySem.W.Frag) : Bool := K.all fun q => !isL q.2
def okK (g : Addr → Option Obj) (K : PySem.W.Frag) : Bool := noL K && (((codesK K).all fun p => PySem.W.codeHdIn K p.1 p.2 && (match g p.2 with
  | some o => He.emptyTab o
  | none => false)) && decide ((codesK K).map (·.2)).Nodup)
structure SaysP (fa : List He.Fa) (fn : List He.DefD) (ex : PySem.W.Frag → Bool) (h : Heap) (K : PySem.W.Frag) : Prop where
  inn : K.In h
  d : He.SaysD fa fn K
  no : noL K = true
  hd : ∀ p ∈ codesK K, PySem.W.codeHdIn K p.1 p.2 = true
  out : ∀ p ∈ codesK K, K.lookup p.2 = none
  empty : ∀ p ∈ codesK K, h.get? p.2 = some { cls := .none, data := .fields #[] }
  nd : ((codesK K).map (·.2)).Nodup
  ex : ex K = true
theorem saysP_of {n : Nat} {fa : List He.Fa} {fn : List He.DefD} {ex : PySem.W.Frag → Bool} {h : Heap} (e1 : He.obsD fa fn (He.frT h.get? (He.asD h.get? n)) = He.valD fn) (e2 : (okK h.get? (He.frT h.get? (He.asD h.get? n)) && ex (He.frT h.get? (He.asD h.get? n))) = true) : SaysP fa fn ex h (He.frT h.get? (He.asD h.get? n)) := by
  generalize hK : He.frT h.get? (He.asD h.get? n) = K at e1 e2
  obtain ⟨a, b⟩ := Bool.and_eq_true_iff.mp e2
  obtain ⟨a1, a2⟩ := Bool.and_eq_true_iff.mp a
  obtain ⟨a2, a3⟩ := Bool.and_eq_true_iff.mp a2
  have key : ∀ p ∈ codesK K, PySem.W.codeHdIn K p.1 p.2 = true ∧ ∃ o, h.get? p.2 = some o ∧ He.emptyTab o = true := fun p hp => by
    obtain ⟨z1, z2⟩ := Bool.and_eq_true_iff.mp (List.all_eq_true.mp a2 p hp)
    refine ⟨z1, ?_⟩
    cases q : h.get? p.2 with
    | none => rw [q] at z2; cases z2
    | some o => rw [q] at z2; exact ⟨o, rfl, z2⟩
  refine ⟨hK ▸ He.frT_in, e1, a1, fun p hp => (key p hp).1, fun p hp => ?_, fun p hp => ?_, of_decide_eq_true a3, b⟩
  · obtain ⟨_, o, q, z⟩ := key p hp
    rw [← hK]
    exact He.frT_none q z
  · obtain ⟨_, o, q, z⟩ := key p hp
    rw [q, He.emptyTab_eq z]
def hookP (n : Nat) (fa : List He.Fa) (fn : List He.DefD) (ex : PySem.W.Frag → Bool) : PySem.W.Hook where
  α := He.AlD × Bool
  obs := fun s => (He.obsD fa fn (He.frT s.heap.get? (He.asD s.heap.get? n)), okK s.heap.get? (He.frT s.heap.get? (He.asD s.heap.get? n)) && ex (He.frT s.heap.get? (He.asD s.heap.get? n)))
  val := fun _ => (He.valD fn, true)
  says := fun _ h => ∃ K : PySem.W.Frag, SaysP fa fn ex h K
  of := fun _ _ e => ⟨_, saysP_of (congrArg (fun z : He.AlD × Bool => z.1) e) (congrArg (fun z : He.AlD × Bool => z.2) e)⟩
  keeps := fun _ _ _ ⟨K, c⟩ k => ⟨K, ⟨PySem.W.Frag.In.keeps c.inn k, c.d, c.no, c.hd, c.out, fun p hp => k _ _ (c.empty p hp), c.nd, c.ex⟩⟩
def obP (n : Nat) (fa : List He.Fa) (fn : List He.DefD) (ex : PySem.W.Frag → Bool) (g : Addr → Option Obj) : He.AlD × Bool := (He.obsD fa fn (He.frT g (He.asD g n)), okK g (He.frT g (He.asD g n)) && ex (He.frT g (He.asD g n)))
theorem obP_eq {n : Nat} {fa : List He.Fa} {fn : List He.DefD} {ex : PySem.W.Frag → Bool} {g : Addr → Option Obj} {s : Shared} (h : ∀ a, g a = s.heap.get? a) : obP n fa fn ex g = (hookP n fa fn ex).obs s := by
  have e : g = s.heap.get? := funext h
  subst e
  rfl
theorem noL_at : ∀ {K : PySem.W.Frag} {a : Addr} {o : Obj}, noL K = true → K.lookup a = some o → o.cls ≠ .type "list" := fun {K a o} h e z => by
  have q := List.all_eq_true.mp h (a, o) (mem_of_look e)
  unfold isL at q
  rw [decide_eq_true z] at q
  cases q
/-! ### the law's promise -/
def dInts (ns : List Int) : List D := ns.map PyData.int
theorem law_sp {K : PySem.W.Frag} {XR : Exn → Value → Option Addr → Hp → Prop} {pf : PF} {ns : List Int} {H : Hp} {a : Addr} (hpf : ∃ ρ', pf [.frz (.list (dInts ns))] = .ok (.fz (.bool true)) ρ') (hK : noL K = true) (hT : ∀ p ∈ codesK K, H p.2 = some (.tbl #[])) (hS : SqL K H a (ns.map V.int)) :
    spP K XR 1 pf [.ref a] H (fun v _ => v = .bl true) fun _ _ _ => False := by
  have q : Rd H a (.lst (ns.map V.int)) := by
    rcases hS with q | ⟨o, its, n, e, c, _⟩
    · exact q
    · exact absurd c (noL_at hK e)
  have tb : LamX.Tabs (tabsK K) H := fun p hp => by
    obtain ⟨c, hc⟩ := tabs_codes hp
    exact LamX.TabS.nil (hT _ hc)
  let F : Hp := fun b => if b = a then H a else none
  have sF : Sub F H := fun b o e => by
    by_cases hb : b = a
    · subst hb; exact (if_pos rfl).symm.trans e
    · have z := (if_neg hb).symm.trans e
      cases z
  have qF : Rd F a (.lst (ns.map V.int)) := by
    rcases q with q | ⟨o, q⟩
    · exact .inl ((if_pos rfl).trans q)
    · exact .inr ⟨o, (if_pos rfl).trans q⟩
  have ntF : ∀ b o, F b = some o → NT o := fun b o e ps z => by
    by_cases hb : b = a
    · subst hb
      have e : H b = some o := (if_pos rfl).symm.trans e
      subst z
      rcases q with q | ⟨u, q⟩
      · rw [q] at e; cases e
      · rw [q] at e; cases e
    · have z := (if_neg hb).symm.trans e
      cases z
  have ra : ∀ (F : Hp) (ns : List Int), RpAll K F (ns.map V.int) (dInts ns) := fun F ns => by
    unfold dInts
    induction ns with
    | nil => exact .nil
    | cons n ns ih => exact .cons (.int n) ih
  have rp : Rp K F (.ref a) (.list (dInts ns)) := .lst qF (ra F ns)
  refine ⟨F, [.frz (.list (dInts ns))], ⟨rfl, sF, fun i s h => ?_, fun i j s t b hi _ ms _ _ _ => ?_, tb, ntF⟩, rfl, fun s h xs e => ?_, ?_⟩
  · cases i with
    | zero => cases h; exact ⟨.ref a, rfl, rp⟩
    | succ i => simp at h
  · cases i with
    | zero => cases hi; cases ms
    | succ i => simp at hi
  · rcases List.mem_singleton.mp h with rfl
    cases e
  · obtain ⟨ρ', e⟩ := hpf
    rw [e]
    intro v F' H' _ hv
    have hv : Rp K F' v (.bool true) := hv
    cases hv
    rfl
/-- from the head to the law's promise (no exception leaves the law) -/
theorem walk_pu {l : PySem.W.OpenLaw} {k : Nat} {q : Program} {loose : List Str} {XP : (Str → Option Value) → Heap → Prop} {d : DefRec} {x : Str} {pf : PF} {n : Nat} {fa : List He.Fa} {fn : List He.DefD} {ex : PySem.W.Frag → Bool} {XR : PySem.W.Frag → Exn → Value → Option Addr → Hp → Prop} (hm : l.most = some 63) (hdf : d.params.defaults = []) (hr : Room k callerA)
    (hpf : ∀ ns : List Int, ns.length ≤ 63 → ∃ ρ', pf [.frz (.list (dInts ns))] = .ok (.fz (.bool true)) ρ')
    (hF : ∀ (w : World) (mg : Str → Option Value) (fad : Addr) (h : Heap) (K : PySem.W.Frag), SaysP fa fn ex h K → h.Ns mainGlobals mg → mg d.name = some (.ref fad) →
      ∃ fd : FuncData, (∀ (s : Shared) (u : Value), BindsTo s fd ⟨[u], []⟩ [(x, u)]) ∧
        ∀ base : Heap, K.In base → base.Ns mainGlobals mg → (∀ p ∈ codesK K, LamX.TabB base mg p.1 p.2) → FnOk l.prog w K mg base (L2N.CX l.prog w) k fad fd [x] (spP K (XR K) 1 pf)) : PySem.W.WalkO q loose XP (hookP n fa fn ex).says l.row.toRowW d [] (fun f vs => PySem.call f vs) := by
  refine Att.attach_call hm hdf fun w _ s1 mg _ fad _ _ _ _ a _ ns G Y _ _ _ gm hobj hi hlen hg => ?_
  obtain ⟨K, c⟩ := Y
  obtain ⟨fd, hb, F⟩ := hF w mg fad _ K c G.T.g gm
  refine LamX.law_callTs (cs := codesK K) c.inn G.T.g G.T.b G.T.builtins G.T.nolimit hg c.empty c.out (fun p hp => PySem.W.codeHd_of_K c.inn (c.hd p hp)) G.T.bmain hobj hi (Nat.le_trans hlen (by decide)) hr F hb (fun H hT hS => law_sp (hpf ns hlen) c.no hT hS) fun H e s' hc => ?_
  obtain ⟨_, _, _, _, _, _, _, _, _, _, _, _, z⟩ := hc
  exact z.elim
end Pu
set_option Elab.async false
set_option linter.all false
set_option maxRecDepth 100000
set_option maxHeartbeats 1000000
/-! Px1: running the pure words. -/
namespace Pu
open PySem L2
/-- r ends well, with Q -/
inductive Wd {α : Type} : Res α → (α → Ev → Prop) → Prop where
  | mk {a : α} {ρ : Ev} {Q : α → Ev → Prop} (q : Q a ρ) : Wd (.ok a ρ) Q
/-- what is answered, whatever the slots -/
def resV (r : Res RV) : Option RV := match r with
  | .ok r _ => some r
  | _ => none
def opP {α : Type} (o : Option α) (Q : α → Prop) : Prop := match o with
  | some a => Q a
  | none => False
section
variable {α β : Type} {ρ : Ev}
@[simp] theorem wd_ok {a : α} {Q : α → Ev → Prop} : Wd (.ok a ρ) Q = Q a ρ := propext ⟨fun h => by cases h; assumption, .mk⟩
@[simp] theorem wd_bad {Q : α → Ev → Prop} : Wd .bad Q = False := propext ⟨fun h => (by cases h), False.elim⟩
@[simp] theorem wd_exc {x : Exn} {Q : α → Ev → Prop} : Wd (.exc x ρ) Q = False := propext ⟨fun h => (by cases h), False.elim⟩
@[simp] theorem wd_bind {r : Res α} {f : α → M β} {Q : β → Ev → Prop} : Wd (r.bind f) Q = Wd r (fun a ρ => Wd (f a ρ) Q) := by
  cases r with
  | ok a ρ =>
    show Wd (f a ρ) Q = _
    rw [wd_ok]
  | exc x ρ => exact wd_exc.trans wd_exc.symm
  | bad => exact wd_bad.trans wd_bad.symm
theorem Wd.imp {r : Res α} {Q Q' : α → Ev → Prop} (h : Wd r Q) (i : ∀ a ρ, Q a ρ → Q' a ρ) : Wd r Q' := by
  cases h with
  | mk q => exact .mk (i _ _ q)
theorem Wd.get {r : Res α} {Q : α → Ev → Prop} (h : Wd r Q) : ∃ a ρ, r = .ok a ρ ∧ Q a ρ := by
  cases h with
  | mk q => exact ⟨_, _, rfl, q⟩
@[simp] theorem opP_some {a : α} {Q : α → Prop} : opP (some a) Q = Q a := propext Iff.rfl
@[simp] theorem opP_none {Q : α → Prop} : opP none Q = False := propext Iff.rfl
@[simp] theorem bind_ok {a : α} {f : α → M β} : (Res.ok a ρ).bind f = f a ρ := rfl
@[simp] theorem bind_bad {f : α → M β} : (Res.bad : Res α).bind f = .bad := rfl
@[simp] theorem bind_exc {x : Exn} {f : α → M β} : (Res.exc x ρ : Res α).bind f = .exc x ρ := rfl
theorem resV_some {r : Res RV} {v : RV} (h : resV r = some v) : ∃ ρ, r = .ok v ρ := by
  cases r with
  | ok a ρ => cases h; exact ⟨ρ, rfl⟩
  | exc x ρ => cases h
  | bad => cases h
theorem resV_wd {r : Res RV} {v : RV} (h : Wd r fun a _ => a = v) : resV r = some v := by
  obtain ⟨a, ρ, e, rfl⟩ := h.get
  rw [e]; rfl
@[simp] theorem x_mC {d : D} : mC d ρ = .ok (.v (.fz d)) ρ := rfl
@[simp] theorem x_mSlot {i : Nat} : mSlot i ρ = match ρ[i]?.join with
  | some _ => .ok (.s i) ρ
  | none => .bad := rfl
@[simp] theorem x_mEsc {m : M Hd} : mEsc m ρ = (m ρ).bind esc := rfl
@[simp] theorem x_mEsr {m : M Hd} : mEsr m ρ = (m ρ).bind esr := rfl
@[simp] theorem x_esc_v {r : RV} : esc (.v r) ρ = .ok (.v (.fz r.d)) ρ := rfl
@[simp] theorem x_esc_s {i : Nat} : esc (.s i) ρ = match ρ[i]?.join with
    | some (.frz d) => .ok (.v (.fz d)) ρ
    | some (.own xs) => .ok (.v (.fz (.list xs))) (ρ.set i (some (.frz (.list xs))))
    | some (.io _) => .bad
    | some (.obj _) => .bad
    | none => .bad := rfl
@[simp] theorem x_esr_v {r : RV} : esr (.v r) ρ = .ok (.v r) ρ := rfl
@[simp] theorem x_esr_s {i : Nat} : esr (.s i) ρ = esc (.s i) ρ := rfl
@[simp] theorem x_fz {d : D} : RV.d (.fz d) = d := rfl
@[simp] theorem x_fr {xs : List D} : RV.d (.fr xs) = .list xs := rfl
@[simp] theorem x_sfrz {d : D} : Sl.d (.frz d) = d := rfl
@[simp] theorem x_sown {xs : List D} : Sl.d (.own xs) = .list xs := rfl
@[simp] theorem x_sio {xs : List D} : Sl.d (.io xs) = .list xs := rfl
@[simp] theorem x_dfrz {d : D} : Sl.dat (.frz d) = some d := rfl
@[simp] theorem x_down {xs : List D} : Sl.dat (.own xs) = some (.list xs) := rfl
@[simp] theorem x_dio {xs : List D} : Sl.dat (.io xs) = some (.list xs) := rfl
@[simp] theorem x_rd_v {r : RV} : rd (.v r) ρ = some r.d := rfl
@[simp] theorem x_rd_s {i : Nat} : rd (.s i) ρ = (ρ[i]?.join).bind Sl.dat := rfl
@[simp] theorem x_asB {h : Hd} : asB h ρ = match rd h ρ with
  | some (.bool b) => some b
  | _ => none := rfl
@[simp] theorem x_mBin {f : D → D → Option RV} {a b : M Hd} : mBin f a b ρ = (a ρ).bind fun h1 ρ1 => (b ρ1).bind fun h2 ρ2 => prim2 f h1 h2 ρ2 := rfl
@[simp] theorem wd_prim2 {f : D → D → Option RV} {h1 h2 : Hd} {Q : Hd → Ev → Prop} : Wd (prim2 f h1 h2 ρ) Q = opP (rd h1 ρ) fun d => opP (rd h2 ρ) fun e => opP (f d e) fun r => Q (.v r) ρ := by
  unfold prim2
  cases rd h1 ρ with
  | none => exact wd_bad
  | some d =>
    cases rd h2 ρ with
    | none => exact wd_bad
    | some e =>
      simp only [opP_some]
      cases f d e <;> first | exact wd_bad | exact wd_ok
@[simp] theorem x_mUn {f : D → Option RV} {a : M Hd} : mUn f a ρ = (a ρ).bind (prim1 f) := rfl
@[simp] theorem wd_prim1 {f : D → Option RV} {h : Hd} {Q : Hd → Ev → Prop} : Wd (prim1 f h ρ) Q = opP (rd h ρ) fun d => opP (f d) fun r => Q (.v r) ρ := by
  unfold prim1
  cases rd h ρ with
  | none => exact wd_bad
  | some d =>
    simp only [opP_some]
    cases f d <;> first | exact wd_bad | exact wd_ok
@[simp] theorem x_mArgs_nil : mArgs [] ρ = .ok [] ρ := rfl
@[simp] theorem x_mArgs_cons {m : M Hd} {ms : List (M Hd)} : mArgs (m :: ms) ρ = (m ρ).bind fun h ρ1 => (mArgs ms ρ1).bind fun hs ρ2 => .ok (h :: hs) ρ2 := rfl
@[simp] theorem x_mPrim {f : List D → Option RV} {ms : List (M Hd)} : mPrim f ms ρ = (mArgs ms ρ).bind (primN f) := rfl
@[simp] theorem x_rds_nil : rds [] ρ = some [] := rfl
@[simp] theorem wd_primN {f : List D → Option RV} {hs : List Hd} {Q : Hd → Ev → Prop} : Wd (primN f hs ρ) Q = opP (rds hs ρ) fun ds => opP (f ds) fun r => Q (.v r) ρ := by
  unfold primN
  cases rds hs ρ with
  | none => exact wd_bad
  | some ds =>
    simp only [opP_some]
    cases f ds <;> first | exact wd_bad | exact wd_ok
@[simp] theorem opP_rds {h : Hd} {hs : List Hd} {Q : List D → Prop} : opP (rds (h :: hs) ρ) Q = opP (rd h ρ) fun d => opP (rds hs ρ) fun ds => Q (d :: ds) := by
  show opP (match rd h ρ, rds hs ρ with
    | some d, some ds => some (d :: ds)
    | _, _ => none) Q = _
  cases rd h ρ with
  | none => rfl
  | some d =>
    simp only [opP_some]
    cases rds hs ρ <;> rfl
@[simp] theorem x_mDisp {f : List D → Option RV} {ms : List (M Hd)} : mDisp f ms ρ = (mArgs ms ρ).bind (primZ f) := rfl
@[simp] theorem x_mTup {ms : List (M Hd)} : mTup ms = mDisp fTup ms := rfl
@[simp] theorem x_mLst {ms : List (M Hd)} : mLst ms = mDisp fLst ms := rfl
@[simp] theorem wd_primZ {f : List D → Option RV} {hs : List Hd} {Q : Hd → Ev → Prop} : Wd (primZ f hs ρ) Q = opP (fzs hs) fun ds => opP (f ds) fun r => Q (.v r) ρ := by
  unfold primZ
  cases fzs hs with
  | none => exact wd_bad
  | some ds =>
    simp only [opP_some]
    cases f ds <;> first | exact wd_bad | exact wd_ok
@[simp] theorem x_fzs_nil : fzs [] = some [] := rfl
@[simp] theorem opP_fzs {d : D} {hs : List Hd} {Q : List D → Prop} : opP (fzs (.v (.fz d) :: hs)) Q = opP (fzs hs) fun ds => Q (d :: ds) := by
  show opP ((fzs hs).map _) Q = _
  cases fzs hs <;> rfl
/-- a truth value decides -/
def brP (o : Option D) (a b : Prop) : Prop := match o with
  | some (.bool true) => a
  | some (.bool false) => b
  | _ => False
@[simp] theorem brP_b {c : Bool} {a b : Prop} : brP (some (.bool c)) a b = ((c = true → a) ∧ (c = false → b)) := by cases c <;> simp [brP]
theorem br_eq {h : Hd} {x y : Res α} {Q : α → Ev → Prop} : Wd (match asB h ρ with
    | some true => x
    | some false => y
    | none => .bad) Q = brP (rd h ρ) (Wd x Q) (Wd y Q) := by
  unfold asB
  cases rd h ρ with
  | none => exact wd_bad
  | some d =>
    cases d with
    | bool b => cases b <;> rfl
    | _ => exact wd_bad
@[simp] theorem wd_mIf {c : M Hd} {a b : M α} {Q : α → Ev → Prop} : Wd (mIf c a b ρ) Q = Wd (c ρ) fun h ρ1 => brP (rd h ρ1) (Wd (a ρ1) Q) (Wd (b ρ1) Q) := by
  show Wd ((c ρ).bind _) Q = _
  rw [wd_bind]
  congr 1
  funext h ρ1
  exact br_eq
@[simp] theorem x_mAnd {a b : M Hd} : mAnd a b = mIf a b (mC (.bool false)) := rfl
@[simp] theorem x_mOr {a b : M Hd} : mOr a b = mIf a (mC (.bool true)) b := rfl
@[simp] theorem x_mNot {a : M Hd} : mNot a = mIf a (mC (.bool false)) (mC (.bool true)) := rfl
@[simp] theorem x_mIfS {c : M Hd} {a b : M Fl} : mIfS c a b = mIf c a b := rfl
@[simp] theorem wd_chain {f g : D → D → Option RV} {a b c : M Hd} {Q : Hd → Ev → Prop} : Wd (mChain f g a b c ρ) Q = Wd (a ρ) fun h1 ρ1 => Wd (b ρ1) fun h2 ρ2 => Wd (prim2 f h1 h2 ρ2) fun k ρ3 => brP (rd k ρ3) (Wd (c ρ3) fun h3 ρ4 => Wd (prim2 g h2 h3 ρ4) Q) (Q (.v (.fz (.bool false))) ρ3) := by
  unfold mChain
  rw [wd_bind]; congr 1; funext h1 ρ1
  rw [wd_bind]; congr 1; funext h2 ρ2
  rw [wd_bind]; congr 1; funext k ρ3
  refine (br_eq (x := (c ρ3).bind fun h3 ρ4 => prim2 g h2 h3 ρ4) (y := .ok (.v (.fz (.bool false))) ρ3)).trans ?_
  rw [wd_bind, wd_ok]
@[simp] theorem x_blk_nil : mBlk [] ρ = .ok .next ρ := rfl
@[simp] theorem wd_blk_cons {m : M Fl} {ms : List (M Fl)} {Q : Fl → Ev → Prop} : Wd (mBlk (m :: ms) ρ) Q = Wd (m ρ) fun f ρ1 => match f with
  | .next => Wd (mBlk ms ρ1) Q
  | f => Q f ρ1 := by
  show Wd ((m ρ).bind _) Q = _
  rw [wd_bind]
  congr 1
  funext f ρ1
  cases f <;> first | rfl | exact wd_ok
@[simp] theorem x_mFl {f : Fl} : mFl f ρ = .ok f ρ := rfl
@[simp] theorem x_mRet {m : M Hd} : mRet m ρ = (m ρ).bind retOf := rfl
@[simp] theorem x_retOf_v {r : RV} : retOf (.v r) ρ = .ok (.ret r) ρ := rfl
@[simp] theorem x_retOf_s {i : Nat} : retOf (.s i) ρ = match ρ[i]?.join with
    | some (.frz d) => .ok (.ret (.fz d)) ρ
    | some (.own xs) => .ok (.ret (.fr xs)) ρ
    | _ => .bad := rfl
@[simp] theorem x_mSet {i : Nat} {m : M Hd} : mSet i m ρ = (m ρ).bind fun h ρ1 => (esr h ρ1).bind (storeOf i) := by
  show ((m ρ).bind esr).bind _ = _
  rw [Res.assoc]
@[simp] theorem x_store_v {i : Nat} {r : RV} : storeOf i (.v r) ρ = match put i r ρ with
    | some ρ' => .ok .next ρ'
    | none => .bad := rfl
/-- no list of the caller's -/
def ni (x : Option Sl) : Bool := match x with
  | some (.io _) => false
  | _ => true
@[simp] theorem ni_none : ni none = true := rfl
@[simp] theorem ni_frz {d : D} : ni (some (.frz d)) = true := rfl
@[simp] theorem ni_own {xs : List D} : ni (some (.own xs)) = true := rfl
@[simp] theorem ni_io {xs : List D} : ni (some (.io xs)) = false := rfl
@[simp] theorem x_put {i : Nat} {r : RV} : put i r ρ = match ρ[i]? with
  | some x => if ni x = true then some (ρ.set i (some (ofRV r))) else none
  | none => none := by
  unfold put
  cases ρ[i]? with
  | none => rfl
  | some x =>
    cases x with
    | none => rfl
    | some s => cases s <;> rfl
@[simp] theorem x_of_fz {d : D} : ofRV (.fz d) = .frz d := rfl
@[simp] theorem x_of_fr {xs : List D} : ofRV (.fr xs) = .own xs := rfl
@[simp] theorem x_mPar {is : List Nat} {ms : List (M Hd)} : mPar is ms ρ = (mArgs ms ρ).bind fun hs ρ1 => match pputs is hs ρ1 with
  | some ρ2 => .ok .next ρ2
  | none => .bad := rfl
@[simp] theorem x_pputs_nil : pputs [] [] ρ = some ρ := rfl
@[simp] theorem x_pputs_cons {i : Nat} {is : List Nat} {r : RV} {hs : List Hd} : pputs (i :: is) (.v r :: hs) ρ = (put i r ρ).bind (pputs is hs) := rfl
@[simp] theorem x_mAsg {t : Tg} {m : M Hd} : mAsg t m ρ = (m ρ).bind fun h ρ1 => (esc h ρ1).bind (asgOf t) := by
  show ((m ρ).bind esc).bind _ = _
  rw [Res.assoc]
@[simp] theorem x_asgOf {t : Tg} {d : D} : asgOf t (.v (.fz d)) ρ = match asg t d ρ with
    | some ρ' => .ok .next ρ'
    | none => .bad := rfl
@[simp] theorem x_asg_n {i : Nat} {d : D} : asg (.n i) d ρ = put1 i d ρ := rfl
@[simp] theorem x_asg_t {l : List Nat} {ds : List D} : asg (.t l) (.tuple ds) ρ = puts l ds ρ := rfl
@[simp] theorem x_asg_l {l : List Nat} {ds : List D} : asg (.t l) (.list ds) ρ = puts l ds ρ := rfl
@[simp] theorem x_puts_nil : puts [] [] ρ = some ρ := rfl
@[simp] theorem x_puts_cons {i : Nat} {is : List Nat} {d : D} {ds : List D} : puts (i :: is) (d :: ds) ρ = (put1 i d ρ).bind (puts is ds) := rfl
@[simp] theorem x_put1 {i : Nat} {d : D} : put1 i d ρ = match ρ[i]? with
  | some x => if ni x = true then some (ρ.set i (some (.frz d))) else none
  | none => none := by
  unfold put1
  cases ρ[i]? with
  | none => rfl
  | some x =>
    cases x with
    | none => rfl
    | some s => cases s <;> rfl
@[simp] theorem x_mCut {m : M Hd} {lo hi : M (Option Int)} : mCut m lo hi ρ = (m ρ).bind fun h ρ1 => (lo ρ1).bind fun l ρ2 => (hi ρ2).bind fun u ρ3 => match rd h ρ3 with
  | some d => (match fCut d l u with
    | some r => .ok (.v r) ρ3
    | none => .bad)
  | none => .bad := rfl
@[simp] theorem x_optM_none : optM none ρ = .ok none ρ := rfl

/-! ### calls -/
@[simp] theorem x_mCall {n : Nat} {pf : PF} {ms : List (M Hd)} : mCall n pf ms ρ = (mArgs ms ρ).bind (callEnd n pf) := rfl
@[simp] theorem x_callEnd {n : Nat} {pf : PF} {hs : List Hd} : callEnd n pf hs ρ = match slsOf hs ρ with
  | none => .bad
  | some sls => if sls.length = n ∧ ioOnce sls = true then callBack hs sls ρ (pf sls) else .bad := rfl
@[simp] theorem x_sls_nil : slsOf [] ρ = some [] := rfl
@[simp] theorem x_sls_cons {h : Hd} {hs : List Hd} : slsOf (h :: hs) ρ = match slOf h ρ, slsOf hs ρ with
    | some s, some ss => some (s :: ss)
    | _, _ => none := rfl
@[simp] theorem x_slOf_v {d : D} : slOf (.v (.fz d)) ρ = some (.frz d) := rfl
@[simp] theorem x_slOf_s {i : Nat} : slOf (.s i) ρ = match ρ[i]?.join with
    | some (.frz d) => some (.frz d)
    | some (.own xs) => some (.io xs)
    | some (.io xs) => some (.io xs)
    | some (.obj u) => some (.obj u)
    | none => none := rfl
@[simp] theorem x_ioOnce_nil : ioOnce [] = true := rfl
@[simp] theorem x_ioOnce_frz {d : D} {ss : List Sl} : ioOnce (.frz d :: ss) = ioOnce ss := rfl
@[simp] theorem x_ioOnce_io {xs : List D} {ss : List Sl} : ioOnce (.io xs :: ss) = (ioAt ss).isNone := rfl
@[simp] theorem x_ioAt_nil : ioAt [] = none := rfl
@[simp] theorem x_ioAt_frz {d : D} {ss : List Sl} : ioAt (.frz d :: ss) = (ioAt ss).map (· + 1) := rfl
@[simp] theorem x_ioAt_io {xs : List D} {ss : List Sl} : ioAt (.io xs :: ss) = some 0 := rfl
/-- a call without a list that is changed -/
theorem wd_callBack {hs : List Hd} {sls : List Sl} {r : Res RV} {Q : Hd → Ev → Prop} (h : ioAt sls = none) : Wd (callBack hs sls ρ r) Q = opP (resV r) fun v => Q (.v v) ρ := by
  cases r with
  | ok v ρ' => simp [callBack, backIo, h, resV]
  | exc x ρ' => simp [callBack, backIo, h, resV]
  | bad => exact wd_bad
@[simp] theorem wd_cb0 {hs : List Hd} {r : Res RV} {Q : Hd → Ev → Prop} : Wd (callBack hs [] ρ r) Q = opP (resV r) fun v => Q (.v v) ρ := wd_callBack rfl
@[simp] theorem wd_cb1 {hs : List Hd} {a : D} {r : Res RV} {Q : Hd → Ev → Prop} : Wd (callBack hs [.frz a] ρ r) Q = opP (resV r) fun v => Q (.v v) ρ := wd_callBack rfl
@[simp] theorem wd_cb2 {hs : List Hd} {a b : D} {r : Res RV} {Q : Hd → Ev → Prop} : Wd (callBack hs [.frz a, .frz b] ρ r) Q = opP (resV r) fun v => Q (.v v) ρ := wd_callBack rfl
@[simp] theorem wd_cb3 {hs : List Hd} {a b c : D} {r : Res RV} {Q : Hd → Ev → Prop} : Wd (callBack hs [.frz a, .frz b, .frz c] ρ r) Q = opP (resV r) fun v => Q (.v v) ρ := wd_callBack rfl
@[simp] theorem wd_cb4 {hs : List Hd} {a b c d : D} {r : Res RV} {Q : Hd → Ev → Prop} : Wd (callBack hs [.frz a, .frz b, .frz c, .frz d] ρ r) Q = opP (resV r) fun v => Q (.v v) ρ := wd_callBack rfl
@[simp] theorem wd_cb5 {hs : List Hd} {a b c d e : D} {r : Res RV} {Q : Hd → Ev → Prop} : Wd (callBack hs [.frz a, .frz b, .frz c, .frz d, .frz e] ρ r) Q = opP (resV r) fun v => Q (.v v) ρ := wd_callBack rfl
@[simp] theorem wd_cb6 {hs : List Hd} {a b c d e f : D} {r : Res RV} {Q : Hd → Ev → Prop} : Wd (callBack hs [.frz a, .frz b, .frz c, .frz d, .frz e, .frz f] ρ r) Q = opP (resV r) fun v => Q (.v v) ρ := wd_callBack rfl
/-- a def's answer, from its body -/
theorem pf_ans {n : Nat} {m : M Fl} {sls : List Sl} {v : RV} (h : Wd (m (sls.map some ++ List.replicate (n - sls.length) none)) fun f _ => f = .ret v) : resV (pfOf n m sls) = some v := by
  obtain ⟨f, ρ, e, rfl⟩ := h.get
  unfold pfOf
  rw [e]; rfl
end
end Pu
set_option Elab.async false
set_option linter.all false
set_option maxRecDepth 100000
set_option maxHeartbeats 1000000
/-! Px2: running comprehensions and loops. -/
namespace Pu
open PySem L2
section
variable {ρ : Ev}
@[simp] theorem x_mSeq {m : M Hd} : mSeq m ρ = (m ρ).bind fun h ρ1 => (esc h ρ1).bind seqOf := by
  show ((m ρ).bind esc).bind _ = _
  rw [Res.assoc]
@[simp] theorem x_seq_l {xs : List D} : seqOf (.v (.fz (.list xs))) ρ = .ok xs ρ := rfl
@[simp] theorem x_seq_t {xs : List D} : seqOf (.v (.fz (.tuple xs))) ρ = .ok xs ρ := rfl
@[simp] theorem wd_mWalk {f : List D → Option (List D)} {ms : List (M Hd)} {Q : List D → Ev → Prop} : Wd (mWalk f ms ρ) Q = Wd (mArgs ms ρ) fun hs ρ1 => opP (fzs hs) fun ds => opP (f ds) fun l => Q l ρ1 := by
  unfold mWalk
  rw [wd_bind]
  congr 1
  funext hs ρ1
  cases fzs hs with
  | none => exact wd_bad
  | some ds =>
    simp only [opP_some]
    cases f ds <;> first | exact wd_bad | exact wd_ok
@[simp] theorem x_lstAt {k : Nat} : lstAt k ρ = match ρ[k]? with
  | some (some (.own xs)) => some xs
  | some (some (.io xs)) => some xs
  | _ => none := rfl
@[simp] theorem x_setAt {k : Nat} {ys : List D} : setAt k ys ρ = match ρ[k]? with
  | some (some (.io _)) => ρ.set k (some (.io ys))
  | _ => ρ.set k (some (.own ys)) := rfl
@[simp] theorem x_mStore {k : Nat} {mi me : M Hd} : mStore k mi me ρ = (me ρ).bind fun h ρ0 => (esc h ρ0).bind fun hv ρ1 => match lstAt k ρ1 with
  | none => .bad
  | some _ => (mi ρ1).bind fun hi ρ2 => match kept hv, rd hi ρ2, lstAt k ρ2 with
    | some d, some (.int i), some xs => (match ixN xs.length i with
      | some j => .ok .next (setAt k (xs.set j d) ρ2)
      | none => .bad)
    | _, _, _ => .bad := by
  show ((me ρ).bind esc).bind _ = _
  exact (Res.assoc (me ρ) esc _).trans rfl
@[simp] theorem x_mApp {k : Nat} {me : M Hd} : mApp k me ρ = match lstAt k ρ with
  | none => .bad
  | some _ => (me ρ).bind fun h ρ0 => (esc h ρ0).bind fun hv ρ1 => match kept hv, lstAt k ρ1 with
    | some d, some xs => if xs.length < lim then .ok .next (setAt k (xs ++ [d]) ρ1) else .bad
    | _, _ => .bad := by
  unfold mApp mEsc
  cases lstAt k ρ with
  | none => rfl
  | some _ =>
    dsimp only
    exact (Res.assoc (me ρ) esc _).trans rfl
@[simp] theorem x_mDrop {m : M Hd} : mDrop m ρ = (m ρ).bind fun _ ρ1 => .ok .next ρ1 := rfl
/-- one turn of a comprehension -/
def elem (tg : Tg) (cond elt : M Hd) (d : D) : M (Option D) := fun ρ => match asg tg d ρ with
  | none => .bad
  | some ρ1 => (cond ρ1).bind fun hb ρ2 => match asB hb ρ2 with
    | some true => (mEsc elt ρ2).bind fun h ρ3 => match kept h with
      | some e => .ok (some e) ρ3
      | none => .bad
    | some false => .ok none ρ2
    | none => .bad
@[simp] theorem wd_elem {tg : Tg} {cond elt : M Hd} {d : D} {Q : Option D → Ev → Prop} : Wd (elem tg cond elt d ρ) Q = opP (asg tg d ρ) fun ρ1 => Wd (cond ρ1) fun hb ρ2 => brP (rd hb ρ2) (Wd (elt ρ2) fun h ρ3 => Wd (esc h ρ3) fun h ρ4 => opP (kept h) fun e => Q (some e) ρ4) (Q none ρ2) := by
  unfold elem
  cases asg tg d ρ with
  | none => exact wd_bad
  | some ρ1 =>
    simp only [opP_some]
    rw [wd_bind]
    congr 1
    funext hb ρ2
    refine (br_eq (x := (mEsc elt ρ2).bind fun h ρ3 => match kept h with
      | some e => .ok (some e) ρ3
      | none => .bad) (y := .ok none ρ2)).trans ?_
    rw [wd_bind, x_mEsc, wd_bind]
    congr 1
    congr 1
    funext h ρ3
    congr 1
    funext h ρ4
    cases kept h <;> first | exact wd_bad | exact wd_ok
    exact wd_ok
@[simp] theorem x_kept {d : D} : kept (.v (.fz d)) = some d := rfl
theorem compRun_cons {vs : List Nat} {tg : Tg} {cond elt : M Hd} {d : D} {ds : List D} : compRun vs tg cond elt (d :: ds) ρ = (elem tg cond elt d ρ).bind fun o ρ3 => (compRun vs tg cond elt ds (wipeE vs ρ3)).bind fun es ρ4 => .ok (o.toList ++ es) ρ4 := by
  show (match asg tg d ρ with
    | none => (Res.bad : Res (List D))
    | some ρ1 => (cond ρ1).bind fun hb ρ2 => match asB hb ρ2 with
      | some true => (mEsc elt ρ2).bind fun h ρ3 => match kept h with
        | some e => (compRun vs tg cond elt ds (wipeE vs ρ3)).bind fun es ρ4 => .ok (e :: es) ρ4
        | none => .bad
      | some false => compRun vs tg cond elt ds (wipeE vs ρ2)
      | none => .bad) = _
  unfold elem
  cases asg tg d ρ with
  | none => rfl
  | some ρ1 =>
    dsimp only
    cases cond ρ1 with
    | bad => rfl
    | exc x ρ2 => rfl
    | ok hb ρ2 =>
      dsimp only [bind_ok]
      cases asB hb ρ2 with
      | none => rfl
      | some b =>
        cases b with
        | false =>
          dsimp only [bind_ok]
          cases compRun vs tg cond elt ds (wipeE vs ρ2) <;> rfl
        | true =>
          dsimp only
          cases mEsc elt ρ2 with
          | bad => rfl
          | exc x ρ3 => rfl
          | ok h ρ3 =>
            dsimp only [bind_ok]
            cases kept h <;> rfl
/-- a comprehension with an invariant: I k acc ρ behind k turns -/
theorem compRun_inv {vs : List Nat} {tg : Tg} {cond elt : M Hd} (I : List D → List D → Ev → Prop) : ∀ {ds : List D} {dn : List D} {acc : List D} {ρ : Ev}, I dn acc ρ → (∀ dn' d rest acc ρ, dn ++ ds = dn' ++ d :: rest → I dn' acc ρ → Wd (elem tg cond elt d ρ) fun o ρ3 => I (dn' ++ [d]) (acc ++ o.toList) (wipeE vs ρ3)) →
    Wd (compRun vs tg cond elt ds ρ) fun es ρ' => I (dn ++ ds) (acc ++ es) ρ'
  | [], dn, acc, ρ, h, _ => by
    refine .mk ?_
    rw [List.append_nil, List.append_nil]; exact h
  | d :: ds, dn, acc, ρ, h, st => by
    rw [compRun_cons, wd_bind]
    refine (st dn d ds acc ρ rfl h).imp fun o ρ3 h3 => ?_
    rw [wd_bind]
    refine (compRun_inv I (ds := ds) h3 fun dn' d' rest acc' ρ' e h' => st dn' d' rest acc' ρ' (by rw [← e, List.append_assoc]; rfl) h').imp fun es ρ4 h4 => ?_
    refine .mk ?_
    show I (dn ++ d :: ds) (acc ++ (o.toList ++ es)) ρ4
    rw [← List.append_assoc]
    rw [List.append_assoc] at h4
    exact h4
theorem wd_comp {vs : List Nat} {mi : M (List D)} {tg : Tg} {cond elt : M Hd} {Q : Hd → Ev → Prop} (I : List D → List D → Ev → Prop) (h : Wd (mi ρ) fun ds ρ1 => ds.length ≤ lim ∧ I [] [] (wipeE vs ρ1) ∧ (∀ dn d rest acc ρ, ds = dn ++ d :: rest → I dn acc ρ → Wd (elem tg cond elt d ρ) fun o ρ3 => I (dn ++ [d]) (acc ++ o.toList) (wipeE vs ρ3)) ∧
      ∀ es ρ', I ds es ρ' → Q (.v (.fr es)) (backE vs ρ1 ρ')) : Wd (mComp vs mi tg cond elt ρ) Q := by
  unfold mComp
  rw [wd_bind]
  refine h.imp fun ds ρ1 ⟨h1, h2, h3, h4⟩ => ?_
  rw [if_pos h1, wd_bind]
  have z := compRun_inv (tg := tg) (cond := cond) (elt := elt) (vs := vs) I (ds := ds) (dn := []) h2 (fun dn' d rest acc ρ e => h3 dn' d rest acc ρ e)
  obtain ⟨es, ρ', e, q⟩ := z.get
  rw [e]
  exact Wd.mk (Wd.mk (h4 es ρ' (by simpa using q)))
theorem back_wipe {vs : List Nat} : backE vs ρ (wipeE vs ρ) = ρ := by
  refine List.ext_getElem? fun i => ?_
  unfold backE wipeE
  rw [over_get, over_get, Nat.zero_add]
  cases ρ[i]? with
  | none => rfl
  | some x =>
    simp only [Option.map_some]
    cases vs.contains i <;> rfl
/-- a comprehension that changes nothing -/
theorem wd_compP {vs : List Nat} {mi : M (List D)} {tg : Tg} {cond elt : M Hd} {Q : Hd → Ev → Prop} (g : D → Option D) (h : Wd (mi ρ) fun ds ρ1 => ds.length ≤ lim ∧ (∀ d ∈ ds, Wd (elem tg cond elt d (wipeE vs ρ1)) fun o ρ3 => o = g d ∧ wipeE vs ρ3 = wipeE vs ρ1) ∧ Q (.v (.fr (ds.filterMap g))) ρ1) : Wd (mComp vs mi tg cond elt ρ) Q := by
  obtain ⟨ds, ρ1, e, h1, h2, h3⟩ := h.get
  refine wd_comp (fun dn acc ρ' => acc = dn.filterMap g ∧ ρ' = wipeE vs ρ1) ?_
  rw [e]
  refine ⟨h1, ⟨rfl, rfl⟩, fun dn d rest acc ρ' ed ⟨ea, er⟩ => ?_, fun es ρ' ⟨ee, er⟩ => ?_⟩
  · subst ea; subst er
    refine (h2 d (by rw [ed]; simp)).imp fun o ρ3 ⟨eo, e3⟩ => ⟨?_, e3⟩
    rw [List.filterMap_append, eo]
    simp [List.filterMap_cons]
    cases g d <;> rfl
  · subst ee; subst er
    rw [back_wipe]
    exact h3
/-- the same, without a condition -/
theorem wd_compM {vs : List Nat} {mi : M (List D)} {tg : Tg} {elt : M Hd} {Q : Hd → Ev → Prop} (g : D → D) (h : Wd (mi ρ) fun ds ρ1 => ds.length ≤ lim ∧ (∀ d ∈ ds, Wd (elem tg (mC (.bool true)) elt d (wipeE vs ρ1)) fun o ρ3 => o = some (g d) ∧ wipeE vs ρ3 = wipeE vs ρ1) ∧ Q (.v (.fr (ds.map g))) ρ1) : Wd (mComp vs mi tg (mC (.bool true)) elt ρ) Q := by
  refine wd_compP (fun d => some (g d)) (h.imp fun ds ρ1 ⟨h1, h2, h3⟩ => ⟨h1, h2, ?_⟩)
  rw [show ds.filterMap (fun d => some (g d)) = ds.map g from List.filterMap_eq_map' ▸ rfl]
  exact h3
theorem asBools_fn {α : Type} (b : α → Bool) : ∀ l : List α, asBools (l.map fun x => PyData.bool (b x)) = some (l.map b)
  | [] => rfl
  | x :: l => by
    show (asBools (l.map fun x => PyData.bool (b x))).map (b x :: ·) = _
    rw [asBools_fn b l]
    rfl
/-- all([.. for ..]) -/
theorem wd_all {vs : List Nat} {mi : M (List D)} {tg : Tg} {elt : M Hd} {Q : Hd → Ev → Prop} (b : D → Bool) (h : Wd (mi ρ) fun ds ρ1 => ds.length ≤ lim ∧ (∀ d ∈ ds, Wd (elem tg (mC (.bool true)) elt d (wipeE vs ρ1)) fun o ρ3 => o = some (.bool (b d)) ∧ wipeE vs ρ3 = wipeE vs ρ1) ∧ Q (.v (.fz (.bool (ds.all b)))) ρ1) :
    Wd (mPrim fAll [mComp vs mi tg (mC (.bool true)) elt] ρ) Q := by
  rw [x_mPrim, wd_bind, x_mArgs_cons, wd_bind]
  refine wd_compM (fun d => .bool (b d)) (h.imp fun ds ρ1 ⟨h1, h2, h3⟩ => ⟨h1, h2, ?_⟩)
  simp only [x_mArgs_nil, bind_ok, wd_ok, wd_primN, opP_rds, x_rd_v, x_fr, opP_some, x_rds_nil]
  show opP ((asBools (ds.map fun d => PyData.bool (b d))).map _) _
  rw [asBools_fn]
  show Q (.v (.fz (.bool ((ds.map b).all id)))) ρ1
  rw [List.all_map]
  exact h3
/-- [.. for ..] of truth values, for all(..) -/
theorem wd_compB {vs : List Nat} {mi : M (List D)} {tg : Tg} {elt : M Hd} {Q : Hd → Ev → Prop} (b : D → Bool) (h : Wd (mi ρ) fun ds ρ1 => ds.length ≤ lim ∧ (∀ d ∈ ds, Wd (elem tg (mC (.bool true)) elt d (wipeE vs ρ1)) fun o ρ3 => o = some (.bool (b d)) ∧ wipeE vs ρ3 = wipeE vs ρ1) ∧
    ∀ l, fAll [.list l] = some (.fz (.bool (ds.all b))) → Q (.v (.fr l)) ρ1) : Wd (mComp vs mi tg (mC (.bool true)) elt ρ) Q := by
  refine wd_compM (fun d => .bool (b d)) (h.imp fun ds ρ1 ⟨h1, h2, h3⟩ => ⟨h1, h2, h3 _ ?_⟩)
  show (asBools (ds.map fun d => PyData.bool (b d))).map _ = _
  rw [asBools_fn]
  show some (RV.fz (.bool ((ds.map b).all id))) = _
  rw [List.all_map]
  rfl
theorem pf_ret {n : Nat} {m : M Fl} {sls : List Sl} {r : RV} {ρ' : Ev} (h : m (sls.map some ++ List.replicate (n - sls.length) none) = .ok (.ret r) ρ') : pfOf n m sls = .ok r ρ' := by
  unfold pfOf
  rw [h]
/-- for -/
theorem forRun_inv {tg : Tg} {body : M Fl} {Q : Fl → Ev → Prop} (I : List D → Ev → Prop) : ∀ {ds dn : List D} {ρ : Ev}, I dn ρ → (∀ dn' d rest ρ, dn ++ ds = dn' ++ d :: rest → I dn' ρ → opP (asg tg d ρ) fun ρ1 => Wd (body ρ1) fun f ρ2 => match f with
      | .next => I (dn' ++ [d]) ρ2
      | .cont => I (dn' ++ [d]) ρ2
      | .brk => Q .next ρ2
      | .ret r => Q (.ret r) ρ2) → (∀ ρ', I (dn ++ ds) ρ' → Q .next ρ') → Wd (forRun tg body ds ρ) Q
  | [], dn, ρ, h, _, q => .mk (q ρ (by rw [List.append_nil]; exact h))
  | d :: ds, dn, ρ, h, st, q => by
    have z := st dn d ds ρ rfl h
    unfold forRun
    cases e : asg tg d ρ with
    | none => rw [e] at z; exact z.elim
    | some ρ1 =>
      rw [e] at z
      dsimp only
      rw [wd_bind]
      refine Wd.imp z fun f ρ2 z2 => ?_
      have go : I (dn ++ [d]) ρ2 → Wd (forRun tg body ds ρ2) Q := fun h2 => forRun_inv I (ds := ds) (dn := dn ++ [d]) h2 (fun dn' d' rest ρ' e' => st dn' d' rest ρ' (by rw [← e', List.append_assoc]; rfl)) fun ρ' h' => q ρ' (by rw [List.append_assoc] at h'; exact h')
      cases f with
      | next => exact go z2
      | cont => exact go z2
      | brk => exact .mk z2
      | ret r => exact .mk z2
theorem wd_for {mi : M (List D)} {tg : Tg} {body : M Fl} {Q : Fl → Ev → Prop} (I : List D → Ev → Prop) (h : Wd (mi ρ) fun ds ρ1 => I [] ρ1 ∧ (∀ dn d rest ρ, ds = dn ++ d :: rest → I dn ρ → opP (asg tg d ρ) fun ρ1 => Wd (body ρ1) fun f ρ2 => match f with
      | .next => I (dn ++ [d]) ρ2
      | .cont => I (dn ++ [d]) ρ2
      | .brk => Q .next ρ2
      | .ret r => Q (.ret r) ρ2) ∧ ∀ ρ', I ds ρ' → Q .next ρ') : Wd (mFor mi tg body ρ) Q := by
  unfold mFor
  rw [wd_bind]
  exact h.imp fun ds ρ1 ⟨h1, h2, h3⟩ => forRun_inv I (dn := []) h1 (fun dn d rest ρ e => h2 dn d rest ρ e) fun ρ' h => h3 ρ' h
/-- the same, where what is walked is known -/
theorem wd_forR {mi : M (List D)} {tg : Tg} {body : M Fl} {Q : Fl → Ev → Prop} {ρ1 : Ev} (ds : List D) (I : List D → Ev → Prop) (hm : Wd (mi ρ) fun a ρ' => a = ds ∧ ρ' = ρ1) (h0 : I [] ρ1) (hs : ∀ dn d rest ρ, ds = dn ++ d :: rest → I dn ρ → opP (asg tg d ρ) fun ρ1 => Wd (body ρ1) fun f ρ2 => match f with
      | .next => I (dn ++ [d]) ρ2
      | .cont => I (dn ++ [d]) ρ2
      | .brk => Q .next ρ2
      | .ret r => Q (.ret r) ρ2) (hq : ∀ ρ', I ds ρ' → Q .next ρ') : Wd (mFor mi tg body ρ) Q := by
  refine wd_for I (hm.imp fun a ρ' ⟨e1, e2⟩ => ?_)
  subst e1; subst e2
  exact ⟨h0, hs, hq⟩
/-- the same, where no turn leaves the loop -/
theorem wd_forN {mi : M (List D)} {tg : Tg} {body : M Fl} {Q : Fl → Ev → Prop} {ρ1 : Ev} (ds : List D) (I : List D → Ev → Prop) (hm : Wd (mi ρ) fun a ρ' => a = ds ∧ ρ' = ρ1) (h0 : I [] ρ1) (hs : ∀ dn d rest ρ, ds = dn ++ d :: rest → I dn ρ → opP (asg tg d ρ) fun ρ1 => Wd (body ρ1) fun f ρ2 => f = .next ∧ I (dn ++ [d]) ρ2)
    (hq : ∀ ρ', I ds ρ' → Q .next ρ') : Wd (mFor mi tg body ρ) Q := by
  refine wd_forR ds I hm h0 (fun dn d rest ρ e h => ?_) hq
  have z := hs dn d rest ρ e h
  cases ea : asg tg d ρ with
  | none => rw [ea] at z; exact z.elim
  | some ρ1 =>
    rw [ea] at z
    refine Wd.imp z fun f ρ2 ⟨e1, h1⟩ => ?_
    subst e1
    exact h1
theorem wd_compR {vs : List Nat} {mi : M (List D)} {tg : Tg} {cond elt : M Hd} {Q : Hd → Ev → Prop} {ρ1 : Ev} (ds : List D) (I : List D → List D → Ev → Prop) (hm : Wd (mi ρ) fun a ρ' => a = ds ∧ ρ' = ρ1) (hl : ds.length ≤ lim) (h0 : I [] [] (wipeE vs ρ1))
    (hs : ∀ dn d rest acc ρ, ds = dn ++ d :: rest → I dn acc ρ → Wd (elem tg cond elt d ρ) fun o ρ3 => I (dn ++ [d]) (acc ++ o.toList) (wipeE vs ρ3)) (hq : ∀ es ρ', I ds es ρ' → Q (.v (.fr es)) (backE vs ρ1 ρ')) : Wd (mComp vs mi tg cond elt ρ) Q := by
  refine wd_comp I (hm.imp fun a ρ' ⟨e1, e2⟩ => ?_)
  subst e1; subst e2
  exact ⟨hl, h0, hs, hq⟩
theorem wd_compPR {vs : List Nat} {mi : M (List D)} {tg : Tg} {cond elt : M Hd} {Q : Hd → Ev → Prop} {ρ1 : Ev} (ds : List D) (g : D → Option D) (hm : Wd (mi ρ) fun a ρ' => a = ds ∧ ρ' = ρ1) (hl : ds.length ≤ lim)
    (hs : ∀ d ∈ ds, Wd (elem tg cond elt d (wipeE vs ρ1)) fun o ρ3 => o = g d ∧ wipeE vs ρ3 = wipeE vs ρ1) (hq : Q (.v (.fr (ds.filterMap g))) ρ1) : Wd (mComp vs mi tg cond elt ρ) Q := by
  refine wd_compP g (hm.imp fun a ρ' ⟨e1, e2⟩ => ?_)
  subst e1; subst e2
  exact ⟨hl, hs, hq⟩
end
end Pu
set_option Elab.async false
set_option linter.all false
set_option maxRecDepth 100000
set_option maxHeartbeats 1000000
/-! Px3: facts of the operations on data. -/
namespace Pu
open PySem L2
@[simp] theorem isa_int {d : D} : fIsa "int" d = some (.fz (.bool d.isInt)) := rfl
@[simp] theorem isa_bool {d : D} : fIsa "bool" d = some (.fz (.bool d.isBool)) := rfl
@[simp] theorem isa_str {d : D} : fIsa "str" d = some (.fz (.bool d.isStr)) := rfl
@[simp] theorem isa_tuple {d : D} : fIsa "tuple" d = some (.fz (.bool d.isTuple)) := rfl
@[simp] theorem isa_list {d : D} : fIsa "list" d = some (.fz (.bool d.isList)) := rfl
@[simp] theorem isInt_int {i : Int} : PyData.isInt (.int i) = true := rfl
@[simp] theorem isInt_bool {b : Bool} : PyData.isInt (.bool b) = true := rfl
@[simp] theorem isInt_none : PyData.isInt .none = false := rfl
@[simp] theorem isInt_str {x : Str} : PyData.isInt (.str x) = false := rfl
@[simp] theorem isInt_list {x : List D} : PyData.isInt (.list x) = false := rfl
@[simp] theorem isInt_tuple {x : List D} : PyData.isInt (.tuple x) = false := rfl
@[simp] theorem isInt_dict {x} : PyData.isInt (.dict x) = false := rfl
@[simp] theorem isBool_int {i : Int} : PyData.isBool (.int i) = false := rfl
@[simp] theorem isBool_bool {b : Bool} : PyData.isBool (.bool b) = true := rfl
@[simp] theorem isTuple_tuple {x : List D} : PyData.isTuple (.tuple x) = true := rfl
@[simp] theorem isTuple_list {x : List D} : PyData.isTuple (.list x) = false := rfl
@[simp] theorem isTuple_int {i : Int} : PyData.isTuple (.int i) = false := rfl
@[simp] theorem isTuple_bool {b : Bool} : PyData.isTuple (.bool b) = false := rfl
@[simp] theorem isTuple_none : PyData.isTuple .none = false := rfl
@[simp] theorem isTuple_str {x : Str} : PyData.isTuple (.str x) = false := rfl
@[simp] theorem isTuple_dict {x} : PyData.isTuple (.dict x) = false := rfl
@[simp] theorem le_ii {i j : Int} : fLe (.int i) (.int j) = some (.fz (.bool (decide (i ≤ j)))) := rfl
@[simp] theorem lt_ii {i j : Int} : fLt (.int i) (.int j) = some (.fz (.bool (decide (i < j)))) := rfl
@[simp] theorem ge_ii {i j : Int} : fGe (.int i) (.int j) = some (.fz (.bool (decide (j ≤ i)))) := rfl
@[simp] theorem gt_ii {i j : Int} : fGt (.int i) (.int j) = some (.fz (.bool (decide (j < i)))) := rfl
@[simp] theorem add_ii {i j : Int} : fAdd (.int i) (.int j) = some (.fz (.int (i + j))) := rfl
@[simp] theorem sub_ii {i j : Int} : fSub (.int i) (.int j) = some (.fz (.int (i - j))) := rfl
@[simp] theorem neg_i {i : Int} : fNeg (.int i) = some (.fz (.int (-i))) := rfl
@[simp] theorem eq_ii {i j : Int} : fEq (.int i) (.int j) = some (.fz (.bool (i == j))) := rfl
@[simp] theorem ne_ii {i j : Int} : fNe (.int i) (.int j) = some (.fz (.bool (!(i == j)))) := rfl
@[simp] theorem len_t {xs : List D} : fLen [.tuple xs] = some (.fz (.int xs.length)) := rfl
@[simp] theorem len_l {xs : List D} : fLen [.list xs] = some (.fz (.int xs.length)) := rfl
@[simp] theorem list_t {xs : List D} : fList [.tuple xs] = some (.fr xs) := rfl
@[simp] theorem list_l {xs : List D} : fList [.list xs] = some (.fr xs) := rfl
@[simp] theorem tuple_t {xs : List D} : fTuple [.tuple xs] = some (.fz (.tuple xs)) := rfl
@[simp] theorem tuple_l {xs : List D} : fTuple [.list xs] = some (.fz (.tuple xs)) := rfl
@[simp] theorem int_i {i : Int} : fInt [.int i] = some (.fz (.int i)) := rfl
@[simp] theorem zip_tt {xs ys : List D} : fZip [.tuple xs, .tuple ys] = some (pairs xs ys) := rfl
@[simp] theorem zip_lt {xs ys : List D} : fZip [.list xs, .tuple ys] = some (pairs xs ys) := rfl
@[simp] theorem zip_tl {xs ys : List D} : fZip [.tuple xs, .list ys] = some (pairs xs ys) := rfl
@[simp] theorem enum_t {xs : List D} : fEnum [.tuple xs] = some (numb 0 xs) := rfl
@[simp] theorem enum_l {xs : List D} : fEnum [.list xs] = some (numb 0 xs) := rfl
@[simp] theorem zip_ll {xs ys : List D} : fZip [.list xs, .list ys] = some (pairs xs ys) := rfl
@[simp] theorem cut_t {xs : List D} {lo hi : Option Int} : fCut (.tuple xs) lo hi = some (.fz (.tuple (cutD xs lo hi))) := rfl
@[simp] theorem cut_l {xs : List D} {lo hi : Option Int} : fCut (.list xs) lo hi = some (.fr (cutD xs lo hi)) := rfl
@[simp] theorem rev_t {xs : List D} : fRev (.tuple xs) = some (.fz (.tuple xs.reverse)) := rfl
@[simp] theorem item_t {xs : List D} {i : Int} : fItem (.tuple xs) (.int i) = (atI xs i).map .fz := rfl
@[simp] theorem item_l {xs : List D} {i : Int} : fItem (.list xs) (.int i) = (atI xs i).map .fz := rfl
@[simp] theorem is_none {d : D} : fIs false d .none = some (.fz (.bool (isNon d))) := by show some (RV.fz (.bool (false != isNon d))) = _; cases isNon d <;> rfl
theorem atI_of {α : Type} {xs : List α} {i : Nat} : atI xs (i : Int) = xs[i]? := by
  unfold atI ixN
  rw [if_pos (by omega)]
  by_cases h : i < xs.length
  · rw [if_pos (by omega)]
    show xs[(i : Int).toNat]? = _
    rw [Int.toNat_natCast]
  · rw [if_neg (by omega), List.getElem?_eq_none (by omega)]
    rfl
@[simp] theorem atI_0 {α : Type} {x : α} {xs : List α} : atI (x :: xs) 0 = some x := atI_of (i := 0)
@[simp] theorem atI_1 {α : Type} {x y : α} {xs : List α} : atI (x :: y :: xs) 1 = some y := atI_of (i := 1)
@[simp] theorem atI_2 {α : Type} {x y z : α} {xs : List α} : atI (x :: y :: z :: xs) 2 = some z := atI_of (i := 2)
@[simp] theorem atI_3 {α : Type} {x y z u : α} {xs : List α} : atI (x :: y :: z :: u :: xs) 3 = some u := atI_of (i := 3)
theorem atI_toNat {α : Type} {xs : List α} {i : Int} (h : 0 ≤ i) : atI xs i = xs[i.toNat]? := by
  have := atI_of (xs := xs) (i := i.toNat)
  rwa [Int.toNat_of_nonneg h] at this
theorem cutD_nat {α : Type} {xs : List α} {lo hi : Nat} : cutD xs (some (lo : Int)) (some (hi : Int)) = (xs.drop lo).take (hi - lo) := by
  unfold cutD
  rw [HT.sIx_nat, HT.sIx_nat]
  by_cases h : lo ≤ xs.length
  · rw [Nat.min_eq_left h]
    by_cases h2 : hi ≤ xs.length
    · rw [Nat.min_eq_left h2]
    · rw [Nat.min_eq_right (by omega), List.take_of_length_le (by simp), List.take_of_length_le (by simp; omega)]
  · rw [Nat.min_eq_right (Nat.le_of_lt (Nat.lt_of_not_le h)), List.drop_eq_nil_of_le (Nat.le_refl _), List.drop_eq_nil_of_le (Nat.le_of_lt (Nat.lt_of_not_le h))]
    simp
theorem cutD_to {α : Type} {xs : List α} {hi : Nat} : cutD xs none (some (hi : Int)) = xs.take hi := by
  unfold cutD
  rw [HT.sIx_nat, HT.sIx_none, List.drop_zero, Nat.sub_zero]
  by_cases h2 : hi ≤ xs.length
  · rw [Nat.min_eq_left h2]
  · rw [Nat.min_eq_right (by omega), List.take_of_length_le (Nat.le_refl _), List.take_of_length_le (by omega)]
theorem cutD_from {α : Type} {xs : List α} {lo : Nat} : cutD xs (some (lo : Int)) none = xs.drop lo := by
  unfold cutD
  rw [HT.sIx_nat, HT.sIx_none]
  by_cases h : lo ≤ xs.length
  · rw [Nat.min_eq_left h, List.take_of_length_le (by simp)]
  · rw [Nat.min_eq_right (by omega), List.drop_eq_nil_of_le (Nat.le_refl _), List.drop_eq_nil_of_le (by omega)]
    simp
/-! ### comparing data -/
theorem dataLt_trans {a b c : D} (h1 : PySem.W.dataLt a b = true) (h2 : PySem.W.dataLt b c = true) : PySem.W.dataLt a c = true := (PyProof.Rows.listOrd PyProof.Rows.itemOrd).trans _ _ _ h1 h2
theorem dataLt_irr {a : D} : PySem.W.dataLt a a = false := (PyProof.Rows.listOrd PyProof.Rows.itemOrd).irrefl _
theorem dataLt_tri {a b : D} (h1 : PySem.W.dataLt a b = false) (h2 : PySem.W.dataLt b a = false) : PySem.W.keyToks a = PySem.W.keyToks b := (PyProof.Rows.listOrd PyProof.Rows.itemOrd).total _ _ h1 h2
mutual
/-- whole numbers, and tuples of such -/
def itree : D → Bool
  | .int _ => true
  | .tuple xs => itrees xs
  | _ => false
def itrees : List D → Bool
  | [] => true
  | x :: xs => itree x && itrees xs
end
mutual
theorem toks_inj : ∀ (d e : D) (l m : List (Int ⊕ List Nat)), itree d = true → itree e = true → PySem.W.alike d e = true → PySem.W.keyToks d ++ l = PySem.W.keyToks e ++ m → d = e ∧ l = m
  | .int i, e, l, m, _, he, ha, h => by
    cases e with
    | int j =>
      rw [PySem.W.keyToks, PySem.W.keyToks] at h
      simp only [List.cons_append, List.nil_append, List.cons.injEq, Sum.inl.injEq] at h
      exact ⟨by rw [h.1], h.2⟩
    | tuple ys => rw [PySem.W.alike] at ha <;> first | cases ha | (intros; simp_all)
    | _ => rw [itree] at he <;> first | cases he | (intros; simp_all)
  | .tuple xs, e, l, m, hd, he, ha, h => by
    cases e with
    | tuple ys =>
      rw [PySem.W.keyToks, PySem.W.keyToks] at h
      rw [itree] at hd he
      rw [PySem.W.alike] at ha
      obtain ⟨h1, h2⟩ := toksAll_inj xs ys l m hd he ha h
      exact ⟨by rw [h1], h2⟩
    | int j => rw [PySem.W.alike] at ha <;> first | cases ha | (intros; simp_all)
    | _ => rw [itree] at he <;> first | cases he | (intros; simp_all)
  | .none, _, _, _, hd, _, _, _ => by rw [itree] at hd <;> first | cases hd | (intros; simp_all)
  | .bool _, _, _, _, hd, _, _, _ => by rw [itree] at hd <;> first | cases hd | (intros; simp_all)
  | .str _, _, _, _, hd, _, _, _ => by rw [itree] at hd <;> first | cases hd | (intros; simp_all)
  | .list _, _, _, _, hd, _, _, _ => by rw [itree] at hd <;> first | cases hd | (intros; simp_all)
  | .dict _, _, _, _, hd, _, _, _ => by rw [itree] at hd <;> first | cases hd | (intros; simp_all)
theorem toksAll_inj : ∀ (xs ys : List D) (l m : List (Int ⊕ List Nat)), itrees xs = true → itrees ys = true → PySem.W.alikeAll xs ys = true → PySem.W.keyToksAll xs ++ l = PySem.W.keyToksAll ys ++ m → xs = ys ∧ l = m
  | [], [], l, m, _, _, _, h => by
    rw [PySem.W.keyToksAll] at h
    simpa using h
  | [], y :: ys, l, m, _, _, _, h => by
    rw [PySem.W.keyToksAll, PySem.W.keyToksAll] at h
    simp at h
  | x :: xs, [], l, m, _, _, _, h => by
    rw [PySem.W.keyToksAll, PySem.W.keyToksAll] at h
    simp at h
  | x :: xs, y :: ys, l, m, hd, he, ha, h => by
    rw [PySem.W.keyToksAll, PySem.W.keyToksAll] at h
    rw [itrees, Bool.and_eq_true] at hd he
    rw [PySem.W.alikeAll, Bool.and_eq_true] at ha
    simp only [List.cons_append, List.append_assoc, List.cons.injEq, true_and] at h
    obtain ⟨h1, h2⟩ := toks_inj x y _ _ hd.1 he.1 ha.1 h
    obtain ⟨h3, h4⟩ := toksAll_inj xs ys l m hd.2 he.2 ha.2 h2
    exact ⟨by rw [h1, h3], h4⟩
end
/-- data of whole numbers are ordered -/
theorem itree_lt {d e : D} (hd : itree d = true) (he : itree e = true) (ha : PySem.W.alike d e = true) (h : PySem.W.dataLt e d = false) (n : d ≠ e) : PySem.W.dataLt d e = true := by
  cases q : PySem.W.dataLt d e with
  | true => rfl
  | false =>
    have z := dataLt_tri q h
    exact absurd (toks_inj d e [] [] hd he ha (by rw [z])).1 n
theorem itrees_ints : ∀ {ns : List Int}, itrees (ns.map PyData.int) = true
  | [] => by rw [List.map_nil, itrees]
  | n :: ns => by rw [List.map_cons, itrees, itree, itrees_ints]; rfl
theorem alike_ints : ∀ {ns ms : List Int}, PySem.W.alikeAll (ns.map PyData.int) (ms.map PyData.int) = true
  | [], [] => by simp [PySem.W.alikeAll]
  | [], _ :: _ => by simp [PySem.W.alikeAll]
  | _ :: _, [] => by simp [PySem.W.alikeAll]
  | n :: ns, m :: ms => by
    rw [List.map_cons, List.map_cons, PySem.W.alikeAll, alike_ints, PySem.W.alike]; rfl
theorem depth_ints : ∀ {ns : List Int}, PyData.depthAll (ns.map PyData.int) = 0
  | [] => by simp [PyData.depthAll]
  | n :: ns => by rw [List.map_cons, PyData.depthAll, PyData.depth, depth_ints]; rfl
theorem eqv_ints : ∀ {ns ms : List Int}, PyData.eqvAll (ns.map PyData.int) (ms.map PyData.int) = decide (ns = ms)
  | [], [] => by simp [PyData.eqvAll]
  | [], _ :: _ => by simp [PyData.eqvAll]
  | _ :: _, [] => by simp [PyData.eqvAll]
  | n :: ns, m :: ms => by
    rw [List.map_cons, List.map_cons, PyData.eqvAll, eqv_ints, PyData.eqv]
    by_cases h : n = m <;> simp [h]
end Pu
set_option Elab.async false
set_option linter.all false
set_option maxRecDepth 100000
set_option maxHeartbeats 1000000
/-! Px4: running two-clause comprehensions, searches, lists of lists, what raises. -/
namespace Pu
open PySem L2
section
variable {ρ : Ev}
theorem wd_compIn {vs1 : List Nat} {mi1 : M (List D)} {tg1 : Tg} {cond1 elt : M Hd} {Q : List D → Ev → Prop} (g : D → Option D) (h : Wd (mi1 ρ) fun ds ρ1 => ds.length ≤ lim ∧ (∀ d ∈ ds, Wd (elem tg1 cond1 elt d (wipeE vs1 ρ1)) fun o ρ3 => o = g d ∧ wipeE vs1 ρ3 = wipeE vs1 ρ1) ∧ Q (ds.filterMap g) ρ1) : Wd (compIn vs1 mi1 tg1 cond1 elt ρ) Q := by
  unfold compIn
  rw [wd_bind]
  refine h.imp fun ds ρ1 ⟨h1, h2, h3⟩ => ?_
  rw [if_pos h1, wd_bind]
  have z := compRun_inv (tg := tg1) (cond := cond1) (elt := elt) (vs := vs1) (fun dn acc ρ' => acc = dn.filterMap g ∧ ρ' = wipeE vs1 ρ1) (ds := ds) (dn := []) (acc := []) (ρ := wipeE vs1 ρ1) ⟨rfl, rfl⟩ (fun dn d rest acc ρ' ed ⟨ea, er⟩ => by
    subst ea; subst er
    refine (h2 d (by rw [show ds = dn ++ d :: rest from ed]; simp)).imp fun o ρ3 ⟨eo, e3⟩ => ⟨?_, e3⟩
    rw [List.filterMap_append, eo]
    simp [List.filterMap_cons]
    cases g d <;> rfl)
  obtain ⟨es, ρ', e, q1, q2⟩ := z.get
  rw [e]
  have q1 : es = ds.filterMap g := by simpa using q1
  subst q1; subst q2
  refine Wd.mk (Wd.mk ?_)
  rw [back_wipe]
  exact h3
theorem compRun2_inv {vs : List Nat} {tg : Tg} {cond : M Hd} {inn : M (List D)} {ρ0 : Ev} (g : D → List D) : ∀ {ds : List D}, (∀ d ∈ ds, opP (asg tg d ρ0) fun ρa => Wd (cond ρa) fun hb ρ2 => brP (rd hb ρ2) (Wd (inn ρ2) fun es ρ3 => es = g d ∧ wipeE vs ρ3 = ρ0) (g d = [] ∧ wipeE vs ρ2 = ρ0)) → Wd (compRun2 vs tg cond inn ds ρ0) fun es ρ' => es = ds.flatMap g ∧ ρ' = ρ0
  | [], _ => .mk ⟨rfl, rfl⟩
  | d :: ds, h => by
    have z := h d List.mem_cons_self
    have ih := compRun2_inv (vs := vs) (cond := cond) (inn := inn) g (ds := ds) fun d' hd' => h d' (List.mem_cons_of_mem _ hd')
    unfold compRun2
    cases ea : asg tg d ρ0 with
    | none => rw [ea] at z; exact z.elim
    | some ρa =>
      rw [ea] at z
      dsimp only
      rw [wd_bind]
      refine Wd.imp z fun hb ρ2 z2 => ?_
      refine Eq.mpr (br_eq (x := (inn ρ2).bind fun es ρ3 => (compRun2 vs tg cond inn ds (wipeE vs ρ3)).bind fun fs ρ4 => .ok (es ++ fs) ρ4) (y := compRun2 vs tg cond inn ds (wipeE vs ρ2))) ?_
      cases er : rd hb ρ2 with
      | none => rw [er] at z2; exact z2
      | some v =>
        rw [er] at z2
        cases v with
        | bool b =>
          rw [brP_b] at z2 ⊢
          refine ⟨fun hb => ?_, fun hb => ?_⟩
          · rw [wd_bind]
            refine (z2.1 hb).imp fun es ρ3 ⟨g1, g2⟩ => ?_
            rw [g2, wd_bind]
            refine ih.imp fun fs ρ4 ⟨g3, g4⟩ => .mk ⟨?_, g4⟩
            rw [g1, g3, List.flatMap_cons]
          · obtain ⟨g1, g2⟩ := z2.2 hb
            rw [g2]
            refine ih.imp fun fs ρ4 ⟨g3, g4⟩ => ⟨?_, g4⟩
            rw [g3, List.flatMap_cons, g1, List.nil_append]
        | none => exact z2
        | int i => exact z2
        | str x => exact z2
        | list l => exact z2
        | tuple l => exact z2
        | dict l => exact z2
/-- a comprehension with two clauses that changes nothing -/
theorem wd_comp2P {vs vs1 : List Nat} {mi : M (List D)} {tg : Tg} {cond : M Hd} {mi1 : M (List D)} {tg1 : Tg} {cond1 elt : M Hd} {Q : Hd → Ev → Prop} (g : D → List D) (h : Wd (mi ρ) fun ds ρ1 => ds.length ≤ lim ∧ (∀ d ∈ ds, opP (asg tg d (wipeE vs ρ1)) fun ρa => Wd (cond ρa) fun hb ρ2 => brP (rd hb ρ2) (Wd (compIn vs1 mi1 tg1 cond1 elt ρ2) fun es ρ3 => es = g d ∧ wipeE vs ρ3 = wipeE vs ρ1) (g d = [] ∧ wipeE vs ρ2 = wipeE vs ρ1)) ∧
      (ds.flatMap g).length ≤ lim ∧ Q (.v (.fr (ds.flatMap g))) ρ1) : Wd (mComp2 vs vs1 mi tg cond mi1 tg1 cond1 elt ρ) Q := by
  unfold mComp2
  rw [wd_bind]
  refine h.imp fun ds ρ1 ⟨h1, h2, h3, h4⟩ => ?_
  rw [if_pos h1, wd_bind]
  obtain ⟨es, ρ', e, g1, g2⟩ := (compRun2_inv g h2).get
  subst g1; subst g2
  rw [e]
  refine Wd.mk ?_
  rw [if_pos h3, back_wipe]
  exact Wd.mk h4
/-- a loop that searches: f tells what it finds at an item, ret what is returned then -/
theorem wd_find {α : Type} {mi : M (List D)} {tg : Tg} {body : M Fl} {Q : Fl → Ev → Prop} {ρ1 : Ev} (ds : List D) (f : D → Option α) (ret : α → RV) (J : Ev → Prop) (hm : Wd (mi ρ) fun a ρ' => a = ds ∧ ρ' = ρ1) (h0 : J ρ1) (hs : ∀ d ∈ ds, ∀ ρ, J ρ → opP (asg tg d ρ) fun ρ1 => Wd (body ρ1) fun fl ρ2 => match f d with
      | some a => fl = .ret (ret a)
      | none => fl = .next ∧ J ρ2) (hq : match ds.findSome? f with
      | some a => ∀ ρ', Q (.ret (ret a)) ρ'
      | none => ∀ ρ', J ρ' → Q .next ρ') : Wd (mFor mi tg body ρ) Q := by
  refine wd_forR ds (fun dn ρ => J ρ ∧ dn.findSome? f = none) hm ⟨h0, rfl⟩ (fun dn d rest ρ e ⟨hj, hn⟩ => ?_) fun ρ' ⟨hj, hn⟩ => ?_
  · have z := hs d (by rw [e]; simp) ρ hj
    cases ea : asg tg d ρ with
    | none => rw [ea] at z; exact z.elim
    | some ρa =>
      rw [ea] at z
      refine Wd.imp z fun fl ρ2 z2 => ?_
      cases ef : f d with
      | none =>
        rw [ef] at z2
        obtain ⟨rfl, hj2⟩ := z2
        refine ⟨hj2, ?_⟩
        rw [List.findSome?_append, hn]
        simp [ef]
      | some a =>
        rw [ef] at z2
        subst z2
        have e2 : ds.findSome? f = some a := by
          rw [e, List.findSome?_append, hn]
          simp [ef]
        rw [e2] at hq
        exact hq ρ2
  · rw [hn] at hq
    exact hq ρ' hj

/-- over a list that stays one's own -/
theorem wd_compO {i : Nat} {vs : List Nat} {tg : Tg} {cond elt : M Hd} {Q : Hd → Ev → Prop} {xs : List D} (g : D → Option D) (hi : ρ[i]? = some (some (.own xs))) (hl : xs.length ≤ lim) (hs : ∀ d ∈ xs, Wd (elem tg cond elt d (wipeE vs (ρ.set i none))) fun o ρ3 => o = g d ∧ wipeE vs ρ3 = wipeE vs (ρ.set i none)) (hq : Q (.v (.fr (xs.filterMap g))) ρ) : Wd (mCompO i vs tg cond elt ρ) Q := by
  unfold mCompO
  rw [hi]
  dsimp only
  rw [if_pos hl, wd_bind]
  have z := compRun_inv (tg := tg) (cond := cond) (elt := elt) (vs := vs) (fun dn acc ρ' => acc = dn.filterMap g ∧ ρ' = wipeE vs (ρ.set i none)) (ds := xs) (dn := []) (acc := []) (ρ := wipeE vs (ρ.set i none)) ⟨rfl, rfl⟩ (fun dn d rest acc ρ' ed ⟨ea, er⟩ => by
    subst ea; subst er
    refine (hs d (by rw [show xs = dn ++ d :: rest from ed]; simp)).imp fun o ρ3 ⟨eo, e3⟩ => ⟨?_, e3⟩
    rw [List.filterMap_append, eo]
    simp [List.filterMap_cons]
    cases g d <;> rfl)
  obtain ⟨es, ρ', e, q1, q2⟩ := z.get
  rw [e]
  have q1 : es = xs.filterMap g := by simpa using q1
  subst q1; subst q2
  refine Wd.mk (Wd.mk ?_)
  rw [back_wipe]
  have er : (ρ.set i none).set i (some (.own xs)) = ρ := by
    refine List.ext_getElem? fun j => ?_
    rw [List.set_set, List.getElem?_set]
    by_cases h : i = j
    · subst h
      rw [if_pos rfl, if_pos (List.getElem?_eq_some_iff.mp hi).1, hi]
    · rw [if_neg h]
  rw [er]
  exact hq
theorem wd_compOM {i : Nat} {vs : List Nat} {tg : Tg} {elt : M Hd} {Q : Hd → Ev → Prop} {xs : List D} (g : D → D) (hi : ρ[i]? = some (some (.own xs))) (hl : xs.length ≤ lim) (hs : ∀ d ∈ xs, Wd (elem tg (mC (.bool true)) elt d (wipeE vs (ρ.set i none))) fun o ρ3 => o = some (g d) ∧ wipeE vs ρ3 = wipeE vs (ρ.set i none)) (hq : Q (.v (.fr (xs.map g))) ρ) : Wd (mCompO i vs tg (mC (.bool true)) elt ρ) Q := by
  refine wd_compO (fun d => some (g d)) hi hl hs ?_
  rw [show xs.filterMap (fun d => some (g d)) = xs.map g from List.filterMap_eq_map' ▸ rfl]
  exact hq
/-! ### lists of lists of one's own -/
theorem wd_noExc {α : Type} {r : Res α} {Q : α → Ev → Prop} (h : Wd r Q) : Wd (noExc r) Q := by
  cases h with
  | mk q => exact .mk q
theorem wd_mGrid {x : Nat} {mc : M (List (List D))} {b1 b2 : MG} {Q : Fl → Ev → Prop} (hx : ρ[x]? = some none) (h : Wd (mc ρ) fun g ρ1 => Wd (b1 g ρ1) fun g ρ2 => Wd (b2 g ρ2) fun g ρ3 => Q .next (ρ3.set x (some (.own (g.map .list))))) : Wd (mGrid x mc b1 b2 ρ) Q := by
  unfold mGrid
  rw [hx]
  dsimp only
  rw [wd_bind]
  refine wd_noExc ?_
  rw [wd_bind]
  refine h.imp fun g ρ1 h1 => ?_
  rw [wd_bind]
  exact h1.imp fun g ρ2 h2 => h2.imp fun g ρ3 h3 => .mk h3
theorem gRun_ok {vs : List Nat} {tg : Tg} {elt : M Hd} {ρ0 : Ev} (f : D → List D) : ∀ {ds : List D}, (∀ d ∈ ds, opP (asg tg d ρ0) fun ρa => Wd (elt ρa) fun h ρ2 => h = .v (.fr (f d)) ∧ wipeE vs ρ2 = ρ0) → Wd (gRun vs tg elt ds ρ0) fun g ρ' => g = ds.map f ∧ ρ' = ρ0
  | [], _ => .mk ⟨rfl, rfl⟩
  | d :: ds, h => by
    have z := h d List.mem_cons_self
    have ih := gRun_ok (vs := vs) (elt := elt) f (ds := ds) fun d' hd' => h d' (List.mem_cons_of_mem _ hd')
    unfold gRun
    cases ea : asg tg d ρ0 with
    | none => rw [ea] at z; exact z.elim
    | some ρa =>
      rw [ea] at z
      dsimp only
      rw [wd_bind]
      refine Wd.imp z fun hb ρ2 ⟨z1, z2⟩ => ?_
      rw [z1, z2]
      show Wd ((gRun vs tg elt ds ρ0).bind _) _
      rw [wd_bind]
      exact ih.imp fun g ρ3 ⟨g1, g2⟩ => .mk ⟨by rw [g1]; rfl, g2⟩
theorem wd_mGC {vs : List Nat} {mi : M (List D)} {tg : Tg} {elt : M Hd} {Q : List (List D) → Ev → Prop} (f : D → List D) (h : Wd (mi ρ) fun ds ρ1 => ds.length ≤ lim ∧ (∀ d ∈ ds, opP (asg tg d (wipeE vs ρ1)) fun ρa => Wd (elt ρa) fun h ρ2 => h = .v (.fr (f d)) ∧ wipeE vs ρ2 = wipeE vs ρ1) ∧ Q (ds.map f) ρ1) : Wd (mGC vs mi tg elt ρ) Q := by
  unfold mGC
  rw [wd_bind]
  refine h.imp fun ds ρ1 ⟨h1, h2, h3⟩ => ?_
  rw [if_pos h1, wd_bind]
  refine (gRun_ok f h2).imp fun g ρ2 ⟨g1, g2⟩ => .mk ?_
  rw [g1, g2, back_wipe]
  exact h3
def intP (o : Option D) (P : Int → Prop) : Prop := match o with
  | some (.int i) => P i
  | _ => False
@[simp] theorem intP_i {i : Int} {P : Int → Prop} : intP (some (.int i)) P = P i := propext Iff.rfl
theorem wd_mGst {mi mj me : M Hd} {g : List (List D)} {Q : List (List D) → Ev → Prop} (h : Wd (me ρ) fun h ρ0 => Wd (esc h ρ0) fun hv ρ1 => Wd (mi ρ1) fun hi ρ2 => intP (rd hi ρ2) fun i => opP (ixN g.length i) fun k => opP (g[k]?) fun row => Wd (mj ρ2) fun hj ρ3 => opP (kept hv) fun d => intP (rd hj ρ3) fun j => opP (ixN row.length j) fun l => Q (g.set k (row.set l d)) ρ3) : Wd (mGst mi mj me g ρ) Q := by
  unfold mGst
  rw [wd_bind, x_mEsc, wd_bind]
  refine h.imp fun h ρ0 h1 => h1.imp fun hv ρ1 h2 => ?_
  rw [wd_bind]
  refine h2.imp fun hi ρ2 h3 => ?_
  cases e1 : rd hi ρ2 with
  | none => rw [e1] at h3; exact h3.elim
  | some di =>
    rw [e1] at h3
    cases di with
    | int i =>
      rw [intP_i] at h3
      dsimp only
      cases e2 : ixN g.length i with
      | none => rw [e2] at h3; exact h3.elim
      | some k =>
        rw [e2, opP_some] at h3
        dsimp only
        cases e3 : g[k]? with
        | none => rw [e3] at h3; exact h3.elim
        | some row =>
          rw [e3, opP_some] at h3
          dsimp only
          rw [wd_bind]
          refine h3.imp fun hj ρ3 h4 => ?_
          cases e4 : kept hv with
          | none => rw [e4] at h4; exact h4.elim
          | some d =>
            rw [e4, opP_some] at h4
            cases e5 : rd hj ρ3 with
            | none => rw [e5] at h4; exact h4.elim
            | some dj =>
              rw [e5] at h4
              cases dj with
              | int j =>
                rw [intP_i] at h4
                dsimp only
                cases e6 : ixN row.length j with
                | none => rw [e6] at h4; exact h4.elim
                | some l =>
                  rw [e6, opP_some] at h4
                  exact .mk h4
              | _ => exact h4.elim
    | _ => exact h3.elim
theorem wd_mGif {mc : M Hd} {b : MG} {g : List (List D)} {Q : List (List D) → Ev → Prop} (h : Wd (mc ρ) fun h ρ1 => brP (rd h ρ1) (Wd (b g ρ1) Q) (Q g ρ1)) : Wd (mGif mc b g ρ) Q := by
  unfold mGif
  rw [wd_bind]
  refine h.imp fun hb ρ1 h1 => ?_
  refine Eq.mpr (br_eq (x := b g ρ1) (y := .ok g ρ1)) ?_
  rw [wd_ok]
  exact h1

/-! ### what raises -/
inductive Wx {α : Type} : Res α → (Exn → Ev → Prop) → Prop where
  | mk {x : Exn} {ρ : Ev} {Q : Exn → Ev → Prop} (q : Q x ρ) : Wx (.exc x ρ) Q
def resX (r : Res RV) : Option Exn := match r with
  | .exc x _ => some x
  | _ => none
section
variable {α β : Type}
@[simp] theorem wx_exc {x : Exn} {Q : Exn → Ev → Prop} : Wx (.exc x ρ : Res α) Q = Q x ρ := propext ⟨fun h => by cases h; assumption, .mk⟩
@[simp] theorem wx_bad {Q : Exn → Ev → Prop} : Wx (.bad : Res α) Q = False := propext ⟨fun h => (by cases h), False.elim⟩
@[simp] theorem wx_ok {a : α} {Q : Exn → Ev → Prop} : Wx (.ok a ρ) Q = False := propext ⟨fun h => (by cases h), False.elim⟩
@[simp] theorem wx_bind {r : Res α} {f : α → M β} {Q : Exn → Ev → Prop} : Wx (r.bind f) Q = (Wx r Q ∨ Wd r fun a ρ => Wx (f a ρ) Q) := by
  cases r with
  | ok a ρ =>
    show Wx (f a ρ) Q = _
    rw [wx_ok, wd_ok, false_or]
  | exc x ρ =>
    show Wx (.exc x ρ) Q = _
    rw [wx_exc, wx_exc, wd_exc, or_false]
  | bad => exact wx_bad.trans (by rw [wx_bad, wd_bad, or_false])
theorem Wx.get {r : Res α} {Q : Exn → Ev → Prop} (h : Wx r Q) : ∃ x ρ, r = .exc x ρ ∧ Q x ρ := by
  cases h with
  | mk q => exact ⟨_, _, rfl, q⟩
@[simp] theorem x_mRaise {c : Str} : mRaise c ρ = .exc ⟨c, none⟩ ρ := rfl
@[simp] theorem wx_mIf {c : M Hd} {a b : M α} {Q : Exn → Ev → Prop} : Wx (mIf c a b ρ) Q = (Wx (c ρ) Q ∨ Wd (c ρ) fun h ρ1 => brP (rd h ρ1) (Wx (a ρ1) Q) (Wx (b ρ1) Q)) := by
  show Wx ((c ρ).bind _) Q = _
  rw [wx_bind]
  congr 2
  funext h ρ1
  unfold asB
  cases rd h ρ1 with
  | none => exact wx_bad
  | some d =>
    cases d with
    | bool b => cases b <;> rfl
    | _ => exact wx_bad
@[simp] theorem wx_blk_cons {m : M Fl} {ms : List (M Fl)} {Q : Exn → Ev → Prop} : Wx (mBlk (m :: ms) ρ) Q = (Wx (m ρ) Q ∨ Wd (m ρ) fun f ρ1 => f = .next ∧ Wx (mBlk ms ρ1) Q) := by
  show Wx ((m ρ).bind _) Q = _
  rw [wx_bind]
  congr 2
  funext f ρ1
  cases f with
  | next => exact (propext ⟨fun h => ⟨rfl, h⟩, fun h => h.2⟩)
  | _ => exact propext ⟨fun h => (by cases h), fun h => (by cases h.1)⟩
theorem resX_wx {r : Res RV} {x : Exn} (h : Wx r fun y _ => y = x) : resX r = some x := by
  obtain ⟨y, ρ, e, rfl⟩ := h.get
  rw [e]; rfl
/-- a def that raises, from its body -/
theorem pf_raise {n : Nat} {m : M Fl} {sls : List Sl} {x : Exn} (h : Wx (m (sls.map some ++ List.replicate (n - sls.length) none)) fun y _ => y = x) : resX (pfOf n m sls) = some x := by
  obtain ⟨f, ρ, e, rfl⟩ := h.get
  unfold pfOf
  rw [e]; rfl
/-- a def that ends without a return -/
theorem pf_next {n : Nat} {m : M Fl} {sls : List Sl} (h : Wd (m (sls.map some ++ List.replicate (n - sls.length) none)) fun f _ => f = .next) : resV (pfOf n m sls) = some (.fz .none) := by
  obtain ⟨f, ρ, e, rfl⟩ := h.get
  unfold pfOf
  rw [e]; rfl
theorem wx_callBack {hs : List Hd} {sls : List Sl} {r : Res RV} {Q : Exn → Ev → Prop} (h : ioAt sls = none) : Wx (callBack hs sls ρ r) Q = opP (resX r) fun x => Q x ρ := by
  cases r with
  | ok v ρ' => simp [callBack, backIo, h, resX]
  | exc x ρ' => simp [callBack, backIo, h, resX]
  | bad => exact wx_bad
@[simp] theorem wx_cb0 {hs : List Hd} {r : Res RV} {Q : Exn → Ev → Prop} : Wx (callBack hs [] ρ r) Q = opP (resX r) fun v => Q v ρ := wx_callBack rfl
@[simp] theorem wx_cb1 {hs : List Hd} {a : D} {r : Res RV} {Q : Exn → Ev → Prop} : Wx (callBack hs [.frz a] ρ r) Q = opP (resX r) fun v => Q v ρ := wx_callBack rfl
@[simp] theorem wx_cb2 {hs : List Hd} {a b : D} {r : Res RV} {Q : Exn → Ev → Prop} : Wx (callBack hs [.frz a, .frz b] ρ r) Q = opP (resX r) fun v => Q v ρ := wx_callBack rfl
@[simp] theorem wx_cb3 {hs : List Hd} {a b c : D} {r : Res RV} {Q : Exn → Ev → Prop} : Wx (callBack hs [.frz a, .frz b, .frz c] ρ r) Q = opP (resX r) fun v => Q v ρ := wx_callBack rfl
theorem wd_telX {ret : Str} {ht : Exn → Option D} {m : M Hd} {Q : Hd → Ev → Prop} (h : Wx (m ρ) fun x ρ' => opP (ht x) fun d => Q (.v (.fz d)) ρ') : Wd (mTel ret ht m ρ) Q := by
  obtain ⟨x, ρ', e, q⟩ := h.get
  unfold mTel
  rw [e]
  dsimp only
  cases e2 : ht x with
  | none => rw [e2] at q; exact q.elim
  | some d => rw [e2] at q; exact .mk q
theorem wd_telO {ret : Str} {ht : Exn → Option D} {m : M Hd} {Q : Hd → Ev → Prop} (h : Wd (m ρ) fun _ ρ' => Q (.v (.fz (.str ret))) ρ') : Wd (mTel ret ht m ρ) Q := by
  obtain ⟨x, ρ', e, q⟩ := h.get
  unfold mTel
  rw [e]
  exact .mk q
theorem resV_X {r : Res RV} {v : RV} (h : resV r = some v) : resX r = none := by
  cases r with
  | ok a ρ => rfl
  | exc x ρ => cases h
  | bad => cases h
end
/-- xs.index(x) -/
theorem wd_mIdx {mo me : M Hd} {Q : Hd → Ev → Prop} (h : Wd (mo ρ) fun h1 ρ1 => lstE h1 ρ1 = true ∧ Wd (me ρ1) fun h2 ρ2 => Wd (prim2 fIndex h1 h2 ρ2) Q) : Wd (mIdx mo me ρ) Q := by
  unfold mIdx
  rw [wd_bind]
  refine h.imp fun h1 ρ1 ⟨e, h⟩ => ?_
  rw [if_pos e, wd_bind]
  exact h
end
end Pu
set_option Elab.async false
set_option linter.all false
set_option maxRecDepth 100000
set_option maxHeartbeats 1000000
/-! Px5: loops and comprehensions over what is known as an image. -/
namespace Pu
open PySem L2
section
variable {ρ ρ1 : Ev} {α : Type}
theorem map_split {β : Type} {f : α → β} {l l1 l2 : List α} {d : β} {rest : List β} (e : l = l1 ++ l2) (h : l.map f = l1.map f ++ d :: rest) : ∃ a l3, l2 = a :: l3 ∧ d = f a := by
  subst e
  rw [List.map_append] at h
  have h := List.append_cancel_left h
  cases l2 with
  | nil => cases h
  | cons a l3 => exact ⟨a, l3, rfl, (List.cons.inj h).1.symm⟩
theorem nil_of_map {β : Type} {f : α → β} {l l1 l2 : List α} (e : l = l1 ++ l2) (h : l.map f = l1.map f) : l2 = [] := by
  subst e
  have z := congrArg List.length h
  simp at z
  exact z
/-- for, over an image, with every way out -/
theorem wd_forFR {mi : M (List D)} {tg : Tg} {body : M Fl} {Q : Fl → Ev → Prop} (l : List α) (f : α → D) (I : List α → Ev → Prop) (hm : Wd (mi ρ) fun ds ρ' => ds = l.map f ∧ ρ' = ρ1) (h0 : I [] ρ1) (hs : ∀ l1 a l2 ρ, l = l1 ++ a :: l2 → I l1 ρ → opP (asg tg (f a) ρ) fun ρ1 => Wd (body ρ1) fun fl ρ2 => match fl with
      | .next => I (l1 ++ [a]) ρ2
      | .cont => I (l1 ++ [a]) ρ2
      | .brk => Q .next ρ2
      | .ret r => Q (.ret r) ρ2) (hq : ∀ ρ', I l ρ' → Q .next ρ') : Wd (mFor mi tg body ρ) Q := by
  refine wd_forR (l.map f) (fun dn ρ' => ∃ l1 l2, l = l1 ++ l2 ∧ dn = l1.map f ∧ I l1 ρ') hm ⟨[], l, rfl, rfl, h0⟩ (fun dn d rest ρ' e ⟨l1, l2, e1, e2, hi⟩ => ?_) fun ρ' ⟨l1, l2, e1, e2, hi⟩ => ?_
  · subst e2
    obtain ⟨a, l3, rfl, rfl⟩ := map_split e1 e
    have z := hs l1 a l3 ρ' e1 hi
    cases ea : asg tg (f a) ρ' with
    | none => rw [ea] at z; exact z.elim
    | some ρa =>
      rw [ea] at z
      refine Wd.imp z fun fl ρ2 z2 => ?_
      have go : I (l1 ++ [a]) ρ2 → ∃ m1 m2, l = m1 ++ m2 ∧ l1.map f ++ [f a] = m1.map f ∧ I m1 ρ2 := fun h => ⟨l1 ++ [a], l3, by rw [e1, List.append_assoc]; rfl, by rw [List.map_append]; rfl, h⟩
      cases fl with
      | next => exact go z2
      | cont => exact go z2
      | brk => exact z2
      | ret r => exact z2
  · have := nil_of_map e1 e2
    subst this
    rw [List.append_nil] at e1
    exact hq ρ' (e1 ▸ hi)
theorem wd_forF {mi : M (List D)} {tg : Tg} {body : M Fl} {Q : Fl → Ev → Prop} (l : List α) (f : α → D) (I : List α → Ev → Prop) (hm : Wd (mi ρ) fun ds ρ' => ds = l.map f ∧ ρ' = ρ1) (h0 : I [] ρ1) (hs : ∀ l1 a l2 ρ, l = l1 ++ a :: l2 → I l1 ρ → opP (asg tg (f a) ρ) fun ρ1 => Wd (body ρ1) fun fl ρ2 => fl = .next ∧ I (l1 ++ [a]) ρ2)
    (hq : ∀ ρ', I l ρ' → Q .next ρ') : Wd (mFor mi tg body ρ) Q := by
  refine wd_forFR l f I hm h0 (fun l1 a l2 ρ' e hi => ?_) hq
  have z := hs l1 a l2 ρ' e hi
  cases ea : asg tg (f a) ρ' with
  | none => rw [ea] at z; exact z.elim
  | some ρa =>
    rw [ea] at z
    refine Wd.imp z fun fl ρ2 ⟨e1, h1⟩ => ?_
    subst e1
    exact h1
theorem range_at {n : Nat} {l1 l2 : List Nat} {a : Nat} (h : List.range n = l1 ++ a :: l2) : a = l1.length ∧ l1.length < n := by
  have e : (List.range n)[l1.length]? = some a := by rw [h]; simp
  obtain ⟨h1, h2⟩ := List.getElem?_eq_some_iff.mp e
  rw [List.getElem_range] at h2
  rw [List.length_range] at h1
  exact ⟨h2.symm, h1⟩
/-- for, over the images of 0 .. n - 1 -/
theorem wd_forI {mi : M (List D)} {tg : Tg} {body : M Fl} {Q : Fl → Ev → Prop} (n : Nat) (f : Nat → D) (I : Nat → Ev → Prop) (hm : Wd (mi ρ) fun ds ρ' => ds = (List.range n).map f ∧ ρ' = ρ1) (h0 : I 0 ρ1) (hs : ∀ i ρ, i < n → I i ρ → opP (asg tg (f i) ρ) fun ρ1 => Wd (body ρ1) fun fl ρ2 => fl = .next ∧ I (i + 1) ρ2)
    (hq : ∀ ρ', I n ρ' → Q .next ρ') : Wd (mFor mi tg body ρ) Q := by
  refine wd_forF (List.range n) f (fun l1 ρ' => I l1.length ρ') hm h0 (fun l1 a l2 ρ' e hi => ?_) fun ρ' hi => ?_
  · obtain ⟨rfl, hl⟩ := range_at e
    rw [List.length_append, List.length_singleton]
    exact hs _ ρ' hl hi
  · rw [List.length_range] at hi
    exact hq ρ' hi
/-- a search, over an image -/
theorem wd_findF {β : Type} {mi : M (List D)} {tg : Tg} {body : M Fl} {Q : Fl → Ev → Prop} (l : List α) (f : α → D) (s : α → Option β) (ret : β → RV) (J : Ev → Prop) (hm : Wd (mi ρ) fun ds ρ' => ds = l.map f ∧ ρ' = ρ1) (h0 : J ρ1) (hs : ∀ a ∈ l, ∀ ρ, J ρ → opP (asg tg (f a) ρ) fun ρ1 => Wd (body ρ1) fun fl ρ2 => match s a with
      | some b => fl = .ret (ret b)
      | none => fl = .next ∧ J ρ2) (hq : match l.findSome? s with
      | some b => ∀ ρ', Q (.ret (ret b)) ρ'
      | none => ∀ ρ', J ρ' → Q .next ρ') : Wd (mFor mi tg body ρ) Q := by
  refine wd_forFR l f (fun l1 ρ => J ρ ∧ l1.findSome? s = none) hm ⟨h0, rfl⟩ (fun l1 a l2 ρ e ⟨hj, hn⟩ => ?_) fun ρ' ⟨hj, hn⟩ => ?_
  · have z := hs a (by rw [e]; simp) ρ hj
    cases ea : asg tg (f a) ρ with
    | none => rw [ea] at z; exact z.elim
    | some ρa =>
      rw [ea] at z
      refine Wd.imp z fun fl ρ2 z2 => ?_
      cases ef : s a with
      | none =>
        rw [ef] at z2
        obtain ⟨rfl, hj2⟩ := z2
        refine ⟨hj2, ?_⟩
        rw [List.findSome?_append, hn]
        simp [ef]
      | some b =>
        rw [ef] at z2
        subst z2
        have e2 : l.findSome? s = some b := by
          rw [e, List.findSome?_append, hn]
          simp [ef]
        rw [e2] at hq
        exact hq ρ2
  · rw [hn] at hq
    exact hq ρ' hj
/-- a comprehension over an image, with a state -/
theorem wd_compS {vs : List Nat} {mi : M (List D)} {tg : Tg} {cond elt : M Hd} {Q : Hd → Ev → Prop} (l : List α) (f : α → D) (I : List α → List D → Ev → Prop) (hm : Wd (mi ρ) fun ds ρ' => ds = l.map f ∧ ρ' = ρ1) (hl : l.length ≤ lim) (h0 : I [] [] (wipeE vs ρ1))
    (hs : ∀ l1 a l2 acc ρ, l = l1 ++ a :: l2 → I l1 acc ρ → Wd (elem tg cond elt (f a) ρ) fun o ρ3 => I (l1 ++ [a]) (acc ++ o.toList) (wipeE vs ρ3)) (hq : ∀ es ρ', I l es ρ' → Q (.v (.fr es)) (backE vs ρ1 ρ')) : Wd (mComp vs mi tg cond elt ρ) Q := by
  refine wd_compR (l.map f) (fun dn acc ρ' => ∃ l1 l2, l = l1 ++ l2 ∧ dn = l1.map f ∧ I l1 acc ρ') hm (by rw [List.length_map]; exact hl) ⟨[], l, rfl, rfl, h0⟩ (fun dn d rest acc ρ' e ⟨l1, l2, e1, e2, hi⟩ => ?_) fun es ρ' ⟨l1, l2, e1, e2, hi⟩ => ?_
  · subst e2
    obtain ⟨a, l3, rfl, rfl⟩ := map_split e1 e
    exact (hs l1 a l3 acc ρ' e1 hi).imp fun o ρ3 h => ⟨l1 ++ [a], l3, by rw [e1, List.append_assoc]; rfl, by rw [List.map_append]; rfl, h⟩
  · have := nil_of_map e1 e2
    subst this
    rw [List.append_nil] at e1
    exact hq es ρ' (e1 ▸ hi)
/-- a comprehension over an image -/
theorem wd_compF {vs : List Nat} {mi : M (List D)} {tg : Tg} {elt : M Hd} {Q : Hd → Ev → Prop} (l : List α) (f g : α → D) (hm : Wd (mi ρ) fun ds ρ' => ds = l.map f ∧ ρ' = ρ1) (hl : l.length ≤ lim) (hs : ∀ a ∈ l, Wd (elem tg (mC (.bool true)) elt (f a) (wipeE vs ρ1)) fun o ρ3 => o = some (g a) ∧ wipeE vs ρ3 = wipeE vs ρ1) (hq : Q (.v (.fr (l.map g))) ρ1) : Wd (mComp vs mi tg (mC (.bool true)) elt ρ) Q := by
  refine wd_compS l f (fun l1 acc ρ' => acc = l1.map g ∧ ρ' = wipeE vs ρ1) hm hl ⟨rfl, rfl⟩ (fun l1 a l2 acc ρ' e ⟨h1, h2⟩ => ?_) fun es ρ' ⟨h1, h2⟩ => ?_
  · subst h1; subst h2
    refine (hs a (by rw [e]; simp)).imp fun o ρ3 ⟨e1, e2⟩ => ⟨?_, e2⟩
    subst e1
    rw [List.map_append]
    rfl
  · subst h1; subst h2
    rw [back_wipe]
    exact hq
/-- a comprehension over an image, with a condition -/
theorem wd_compG {vs : List Nat} {mi : M (List D)} {tg : Tg} {cond elt : M Hd} {Q : Hd → Ev → Prop} (l : List α) (f : α → D) (g : α → Option D) (hm : Wd (mi ρ) fun ds ρ' => ds = l.map f ∧ ρ' = ρ1) (hl : l.length ≤ lim) (hs : ∀ a ∈ l, Wd (elem tg cond elt (f a) (wipeE vs ρ1)) fun o ρ3 => o = g a ∧ wipeE vs ρ3 = wipeE vs ρ1) (hq : Q (.v (.fr (l.filterMap g))) ρ1) : Wd (mComp vs mi tg cond elt ρ) Q := by
  refine wd_compS l f (fun l1 acc ρ' => acc = l1.filterMap g ∧ ρ' = wipeE vs ρ1) hm hl ⟨rfl, rfl⟩ (fun l1 a l2 acc ρ' e ⟨h1, h2⟩ => ?_) fun es ρ' ⟨h1, h2⟩ => ?_
  · subst h1; subst h2
    refine (hs a (by rw [e]; simp)).imp fun o ρ3 ⟨e1, e2⟩ => ⟨?_, e2⟩
    subst e1
    rw [List.filterMap_append]
    simp [List.filterMap_cons]
    cases g a <;> rfl
  · subst h1; subst h2
    rw [back_wipe]
    exact hq
/-- over a list that stays one's own, an image -/
theorem wd_compOF {i : Nat} {vs : List Nat} {tg : Tg} {elt : M Hd} {Q : Hd → Ev → Prop} (l : List α) (f g : α → D) (hi : ρ[i]? = some (some (.own (l.map f)))) (hl : l.length ≤ lim) (hs : ∀ a ∈ l, Wd (elem tg (mC (.bool true)) elt (f a) (wipeE vs (ρ.set i none))) fun o ρ3 => o = some (g a) ∧ wipeE vs ρ3 = wipeE vs (ρ.set i none)) (hq : Q (.v (.fr (l.map g))) ρ) : Wd (mCompO i vs tg (mC (.bool true)) elt ρ) Q := by
  unfold mCompO
  rw [hi]
  dsimp only
  rw [if_pos (by rw [List.length_map]; exact hl), wd_bind]
  have z := compRun_inv (tg := tg) (cond := mC (.bool true)) (elt := elt) (vs := vs) (fun dn acc ρ' => ∃ l1 l2, l = l1 ++ l2 ∧ dn = l1.map f ∧ acc = l1.map g ∧ ρ' = wipeE vs (ρ.set i none)) (ds := l.map f) (dn := []) (acc := []) (ρ := wipeE vs (ρ.set i none)) ⟨[], l, rfl, rfl, rfl, rfl⟩ (fun dn d rest acc ρ' ed ⟨l1, l2, e1, e2, ea, er⟩ => by
    subst ea; subst er; subst e2
    obtain ⟨a, l3, rfl, rfl⟩ := map_split e1 ed
    refine (hs a (by rw [e1]; simp)).imp fun o ρ3 ⟨eo, e3⟩ => ⟨l1 ++ [a], l3, by rw [e1, List.append_assoc]; rfl, by rw [List.map_append]; rfl, ?_, e3⟩
    rw [eo, List.map_append]
    rfl)
  obtain ⟨es, ρ', e, l1, l2, e1, e2, q1, q2⟩ := z.get
  rw [e]
  have := nil_of_map e1 (by simpa using e2)
  subst this
  rw [List.append_nil] at e1
  subst e1
  have q1 : es = l.map g := by simpa using q1
  subst q1; subst q2
  refine Wd.mk (Wd.mk ?_)
  rw [back_wipe]
  have er : (ρ.set i none).set i (some (.own (l.map f))) = ρ := by
    refine List.ext_getElem? fun j => ?_
    rw [List.set_set, List.getElem?_set]
    by_cases h : i = j
    · subst h
      rw [if_pos rfl, if_pos (List.getElem?_eq_some_iff.mp hi).1, hi]
    · rw [if_neg h]
  rw [er]
  exact hq
theorem wd_compOE {i : Nat} {vs : List Nat} {tg : Tg} {cond elt : M Hd} {Q : Hd → Ev → Prop} (ho : ¬ ∃ xs, ρ[i]? = some (some (.own xs))) (h : Wd (mComp vs (mSeq (mSlot i)) tg cond elt ρ) Q) : Wd (mCompO i vs tg cond elt ρ) Q := by
  rw [compO_else ho]
  exact h
end
end Pu
set_option Elab.async false
set_option linter.all false
set_option maxRecDepth 100000
set_option maxHeartbeats 2000000
/-! Ph4: the def that calls what it gets and tells what was raised. -/
namespace Pu
open PySem PySem.Spec PyProof PyProof.Rows L2 LamX
theorem takesN0 {X : Cx} : L2N.Takes X (fun _ _ _ _ => False) := fun _ _ x => by
  obtain ⟨_, _, _, _, _, _, _, _, _, _, _, _, _, _, _, _, z⟩ := x
  exact z.elim
/-- an exception comes with as many slots as there are names -/
theorem takesN_len {X : Cx} {W : WX} (tk : L2N.Takes X W) : L2N.Takes X (fun cls d σ H => σ.length = X.N.length → W cls d σ H) := fun u s' ⟨a, B, sI, pins, σ, H, cls, d, e, I, nb, up, sky, na, os, ag, w⟩ =>
  tk u s' ⟨a, B, sI, pins, σ, H, cls, d, e, I, nb, up, sky, na, os, ag, w I.len⟩
def TTerr (K : PySem.W.Frag) (CS : Addr) (i n : Nat) (ret : Str) (ts : Addr → Value → Option Addr → TS) : (XK → Hp → VK → Prop) → Hp → VK → Prop := fun tl H Q =>
  tl (fun cls d H' => ∀ σ' : L2.St, σ'.length = n → wAs K (.ref CS) i ts (fun _ _ _ _ => False) { nx := fun _ H' => Q (.str ret) H', rt := Q } cls d σ' H') H fun _ H' => Q (.str ret) H'
/-- try: a() / except e as y: suite / return ret -/
theorem err_gives {X : Cx} {Ng : List Str} {x a e y q ret : Str} {sg : Scope} {g CS : Addr} {cdg : Value} {i j : Nat} {p1 p2 p3 p4 p5 p6 p7 p8 : Pos} {b0 : Stmt} {suite : List Stmt} {ts : Addr → Value → Option Addr → TS}
    (hNd : Ng.Nodup) (hi : Ng[i]? = some y) (hly : sg.names.lookup y = some .local) (hge : sg.names.lookup e = some .globalImplicit) (hme : X.mg e = some (.ref CS)) (hde : (e == ("__debug__" : Str)) = false) (h0 : ∀ f : Addr, (L2.start Ng [V.ref f])[0]? = some (some (V.ref f)))
    (hsu : ∀ (s : Shared) (H : Hp) (a : Addr) (oe : Obj) (cls : Value) (d : Option Addr) (pn : List (Addr × Obj)), L2N.Zn cls d oe → (∃ vs, oe.data = .fields vs) → PSs ((gcx X Ng x sg g cdg s H).nox.suite a ((a, oe) :: pn)) (b0 :: suite) (ts a cls d)) :
    GivesN X Ng x sg g cdg [.Try [.Expr (.Call (.Name a p1) [] [] p2) p3] [.ExceptHandler (some (.Name e p4)) (some y) (b0 :: suite) p5] [] [] p6, .Return (some (.Constant (.str ret) j p7)) p8] a q (TTerr X.K CS i Ng.length ret ts) := by
  intro f c' s H Q tl act hc h
  have hgl : Gl (gcx X Ng x sg g cdg s H).nox e := hge
  refine ⟨_, pss_cons (L2N.ps_try_as (X := (gcx X Ng x sg g cdg s H).nox) (c := .ref CS) (i := i) (ts := ts) (Wout := fun _ _ _ _ => False)
      (tb := fun W D σ H => ∃ Ech : XK, (∀ cls d (σ' : L2.St) H', Ech cls d H' → σ'.length = Ng.length → W cls d σ' H') ∧ σ[0]? = some (some (.ref f)) ∧ H c' = some (CodeO c' q) ∧ tl Ech H fun _ H' => D.nx σ H')
      rfl rfl hNd hi hly ⟨hgl, hde, .inl hme⟩ takesN0 (fun W pn xe tk _ => ?_) (hsu s H)) (pss_one (ps_ret pe_str)), ?_⟩
  · refine ⟨fun pins s' σ H' D I ⟨Ech, hW, h1, h2, h3⟩ => ?_⟩
    have hp := act _ pn xe Ech p1 p2 (takesN_len tk) fun cls d σ' H' z l => hW cls d σ' H' z l
    exact (pss_one (ps_expr (pos := p3) hp)).run pins s' σ H' D I ⟨h1, h2, h3⟩
  · exact ⟨fun cls d H' => ∀ σ' : L2.St, σ'.length = Ng.length → wAs X.K (.ref CS) i ts (fun _ _ _ _ => False) { nx := fun _ H' => Q (.str ret) H', rt := Q } cls d σ' H', fun cls d σ' H' z l => z σ' l, h0 f, hc, h⟩
end Pu
set_option Elab.async false
set_option linter.all false
set_option maxRecDepth 100000
set_option maxHeartbeats 2000000
/-! Ph5: the suite of an except clause, in words. -/
namespace Pu
open PySem PySem.Spec PyProof PyProof.Rows L2 LamX L2H HotX
section
variable {prog : Program} {w : World} {A : Around} {E : Value → Shared → Prop} {s : Shared}
theorem unpack_list_hot {lp x1 : Addr} {items : Array Value} {Q : List Value → Shared → Prop} (hot : HotAt A x1 s.heap) (hk : s.heap.IsList lp items)
    (hQ : ∀ h', Heap.ExtBut s.heap.objs.size s.heap h' → Q items.toList { s with heap := h' }) : wpAny (model prog w) A (unpackItems (.ref lp) items.size none) Q E s := by
  have below : lp ≠ s.heap.objs.size := by obtain ⟨o, ho, _⟩ := hk; exact Nat.ne_of_lt (Heap.lt_size ho)
  have ne1 : x1 ≠ s.heap.objs.size := by obtain ⟨_, o1, _, h1, _⟩ := hot; exact Nat.ne_of_lt (Heap.lt_size h1)
  unfold unpackItems
  refine wpAny_bind ?_
  · unfold notIterableAtAll
    refine wpAny_bind (wpAny_specialOf hk.typeIs slot_list_iter.lookup ?_)
    refine wpAny_pure ?_
    simp only [Bool.false_eq_true, if_false]
    refine wpAny_bind (wpAny_holding (wpAny_pyIter_list hk ?_))
    refine wpAny_bind (wpAny_holding (PySem.W.kun_draw below items.size 0 _ _ ⟨_, Heap.get?_push_size _ rfl, rfl, rfl⟩ (hk.push _) (by omega) fun h1 it1 sb => ?_))
    rw [show List.take items.size (List.drop 0 items.toList) = items.toList by rw [List.drop_zero]; exact List.take_of_length_le (by simp), if_neg (by simp)]
    have t1 : h1.IsList lp items := (hk.push _).extBut sb.extBut below
    have hot1 : HotAt A x1 h1 := by
      obtain ⟨hh, o1, vs1, g1, d1, c1⟩ := hot
      exact ⟨hh, o1, vs1, sb.extBut x1 o1 ne1 (Heap.get?_push_of_some _ g1), d1, c1⟩
    refine wpAny_bind (wpAny_holding (list_end_hot hot1 it1 t1 (by simp) ne1 fun h2 e2 => ?_))
    simp only [Option.isSome_none, Bool.false_eq_true, if_false]
    exact wpAny_pure (hQ h2 fun b o hb e => e2 b o hb (sb.extBut b o hb (Heap.get?_push_of_some _ e)))
end
theorem hot_suite {X : Cx} {a : Addr} {oe : Obj} {cls : Value} {d : Option Addr} {pn : List (Addr × Obj)} (z : L2N.Zn cls d oe) (hf : ∃ vs, oe.data = .fields vs) : HotC (X.suite a ((a, oe) :: pn)) := by
  obtain ⟨vs, e⟩ := hf
  exact ⟨(a, oe), ⟨rfl, vs, e, z.2.2 vs e⟩, List.mem_cons_self ..⟩
section
variable {X : Cx} {w : Wi}
theorem pg_lstH {es : List Expr} {k : Nat} {t : TGs} {n : Nat} {pos : Pos} (hc : HotC X) (h : PGs X es t) (hn : (assignEach es X.env).length = n) (hst : (assignEach es X.env).findIdx? (·.1) = none) : PG X (.Tuple es k pos) (gLst X.K n t) := by
  refine ⟨fun pins s σ H v u Q I r hw => ?_⟩
  obtain ⟨a, xs, e1, hq, hl, hw⟩ := hw
  subst e1
  cases r
  obtain ⟨its, rv, pl, hz⟩ := I.list hq
  obtain ⟨x1, hot⟩ := hc.at I
  have len : its.toArray.size = (assignEach es X.env).length := by simp [hn, ← hl, rv.length]
  rw [assign_Tuple]
  unfold unpack
  rw [hst, ← len]
  refine wpAny_bind (wpAny_standAt (wpAny_bind (wpAny_holding (unpack_list_hot hot pl.isList fun h' hx => ?_))))
  have I1 : Inv X pins σ H { s with heap := h' } := I.kept (t' := s.toks) fun b o e => hx b o (Nat.ne_of_lt (Heap.lt_size e)) e
  exact h.run pins _ σ H xs _ Q I1 (by simpa using rv) hw
theorem puts_length : ∀ {is : List Nat} {ds : List D} {ρ ρ' : Ev}, puts is ds ρ = some ρ' → ds.length = is.length
  | [], [], _, _, _ => rfl
  | [], _ :: _, _, _, h => by cases h
  | _ :: _, [], _, _, h => by cases h
  | i :: is, d :: ds, ρ, ρ', h => by
    have h : (put1 i d ρ).bind (puts is ds) = some ρ' := h
    cases e1 : put1 i d ρ with
    | none => rw [e1] at h; cases h
    | some ρ1 =>
      rw [e1] at h
      rw [List.length_cons, List.length_cons, puts_length h]
theorem sg_tupH {es : List Expr} {k : Nat} {pos : Pos} {is : List Nat} (hK : w.K = X.K) (hc : HotC X) (h : PGs X es (tGs w is)) (hn : (assignEach es X.env).length = is.length) (hst : (assignEach es X.env).findIdx? (·.1) = none) : PG X (.Tuple es k pos) (tG w (.t is)) := by
  refine ⟨fun pins s σ H v u Q I r ⟨F, ρ, d, ρ', S, rp, ha, q⟩ => ?_⟩
  cases d with
  | tuple ds =>
    cases rp with
    | tup hq hr => exact (pg_tupH hc h hn hst).run pins s σ H _ u Q I r ⟨_, _, rfl, S.le.sqT (hK ▸ hq), by rw [hr.length, puts_length ha], F, ρ, ds, ρ', S, hr, ha, q⟩
  | list ds =>
    cases rp with
    | lst hq hr => exact (pg_lstH hc h hn hst).run pins s σ H _ u Q I r ⟨_, _, rfl, .inl (S.le.rd hq), by rw [hr.length, puts_length ha], F, ρ, ds, ρ', S, hr, ha, q⟩
  | none => cases ha
  | bool _ => cases ha
  | int _ => cases ha
  | str _ => cases ha
  | dict _ => cases ha
/-- a list comprehension in words, within an except suite -/
theorem se_lcH {elt tg iter : Expr} {ifs : List Expr} {scope : Scope} {own : List (Str × Nat)} {pos : Pos} {mi : M (List D)} {t : Tg} {mc me : M Hd} (hc : HotC X) (hN : X.N.Nodup) (hi : PIH X tg iter (tI w mi)) (ok : BlkOk X.N X.env.scope scope own) (hs : ∀ i ∈ t.slots, i ∈ own.map (·.2))
    (hg : ∀ (s : Shared) (H : Hp) (C : Addr) (cl : List (Str × Addr)) (fp : List Addr) (p : Addr × Obj), Hot1 X.A p → PG (blkH X s H scope (compEnvC scope cl C X.env) fp p) tg (tG w.blk t))
    (ht : ∀ (s : Shared) (H : Hp) (C : Addr) (cl : List (Str × Addr)) (fp : List Addr) (p : Addr × Obj), Hot1 X.A p → PTs (blkH X s H scope (compEnvC scope cl C X.env) fp p) ifs (tT w.blk mc))
    (he : ∀ (s : Shared) (H : Hp) (C : Addr) (cl : List (Str × Addr)) (fp : List Addr) (p : Addr × Obj), Hot1 X.A p → PE (blkH X s H scope (compEnvC scope cl C X.env) fp p) elt (tK w.blk me)) (hf : ∀ x, foldedSetIterable iter X.env x = pure x) :
    PE X (.ListComp elt [⟨tg, iter, ifs, 0⟩] scope pos) (tK w (mComp (own.map (·.2)) mi t mc me)) :=
  PEimp (pe_lcH hc hN hi ok hg ht (fun s H C cl fp p h => se_esc (he s H C cl fp p h)) hf) fun _ _ _ h => comp_in hs h
def seqL (h : Hd) : M (List D) := fun ρ => match h with
  | .v (.fz (.list xs)) => .ok xs ρ
  | _ => .bad
/-- a list walked there -/
def mSeqL (m : M Hd) : M (List D) := fun ρ => (mEsc m ρ).bind seqL
theorem si_seqH {tg e : Expr} {m : M Hd} (hK : w.K = X.K) (he : PE X e (tK w m)) : PIH X tg e (tI w (mSeqL m)) := by
  refine ⟨fun pins s σ H R I ⟨F, ρ, S, h⟩ => (pi_listH (se_esc he)).run pins s σ H R I ⟨F, ρ, S, ?_⟩⟩
  unfold mSeqL at h
  have z := Wp.bind S h
  cases e1 : mEsc m ρ with
  | bad => rw [e1] at z; exact z.elim
  | exc x ρ1 => rw [e1] at z; exact z
  | ok k ρ1 =>
    rw [e1] at z
    intro F1 H1 p v hv
    obtain ⟨_, z2⟩ := z F1 H1 p
    unfold seqL at z2
    split at z2
    · rename_i xs
      have hv : Rp w.K F1 v (.list xs) := hv
      cases hv with
      | lst q r => exact ⟨_, rfl, ⟨_, .inl (p.st.le.rd q)⟩, z2.ok p.st _ (hK ▸ itd_list q r)⟩
    · exact z2.elim
end
/-! ### isinstance(e, C), e the suite's exception -/
def mIs (i : Nat) (a : Addr) (b : Bool) : M Hd := fun ρ => match ρ[i]?.join with
  | some (.obj (.ref c)) => if c = a then .ok (.v (.fz (.bool b))) ρ else .bad
  | _ => .bad
theorem se_is {w : Wi} {Y : Cx} {a D CA : Addr} {oe : Obj} {pn : List (Addr × Obj)} {i : Nat} {n C : Str} {b : Bool} {p1 p2 p3 pos : Pos} (E : ExcC Y.K D) (hz : Zc (.ref D) none oe) (hf : ∃ vs, oe.data = .fields vs) (hg : Gl Y "isinstance") (hm : Y.mg "isinstance" = none)
    (hgC : Gl Y C) (hmC : Y.mg C = some (.ref CA)) (hk : PySem.W.kitOne Y.K (.ref D) (.ref CA) = some b) (hN : Y.N[i]? = some n) (hv : Vis Y.env.scope n) (d1 : (n == ("__debug__" : Str)) = false) (d2 : (n == ("__classdict__" : Str)) = false) (d3 : (C == ("__debug__" : Str)) = false) :
    PE (Y.suite a ((a, oe) :: pn)) (.Call (.Name "isinstance" p1) [.Name n p2, .Name C p3] [] pos) (tK w (mIs i a b)) := by
  have hA : PA (Y.suite a ((a, oe) :: pn)) [.Name n p2, .Name C p3] (tCons (tVar i) (tCons (tC (.ref CA)) tNil)) := pa_cons (pe_var hN hv d1 d2) (pa_cons (pe_glob hgC hmC rfl d3) pa_nil rfl) rfl
  refine PEimp (pe_callB (call_isE E hz hf) hg hm PyProof.Rows.boot_isinstance hA (by decide) (by decide) rfl (by rfl)) fun σ H Q ⟨F, ρ, S, h⟩ => ?_
  unfold mIs at h
  split at h
  · rename_i c e
    split at h
    · rename_i ec
      subst ec
      obtain ⟨v, ev, ok⟩ := S.slot i _ (join_some.mp e)
      have ok : v = .ref c := ok
      subst ok
      exact ⟨_, ev, .ref CA, .ref CA, b, rfl, fun u r => r, hk, h.ok S (.bl b) (Rp.bl b)⟩
    · exact h.elim
  · exact h.elim
end Pu
set_option Elab.async false
set_option linter.all false
set_option maxRecDepth 100000
set_option maxHeartbeats 2000000
/-! Ph6: the suite of an except clause, read off the text; the def that tells what was raised. -/
namespace Pu
open PySem PySem.Spec PyProof PyProof.Rows L2 LamX L2H
structure Gh where
  N : List Str
  sc : Scope
  /-- the exception's name, its slot, its address -/
  nm : Str
  i : Nat
  a : Addr
  is : Str → Option Bool
def Gh.blk (G : Gh) (scope : Scope) : Gh := { G with sc := relS scope G.sc, is := fun _ => none }
structure HxP (w : Wi) (X : Cx) (G : Gh) : Prop where
  kd : w.K = X.K
  nn : X.N = G.N
  nd : X.N.Nodup
  sc : X.env.scope = G.sc
  hc : HotC X
  isa : ∀ C b p1 p2 p3 pos, G.is C = some b → PE X (.Call (.Name "isinstance" p1) [.Name G.nm p2, .Name C p3] [] pos) (tK w (mIs G.i G.a b))
theorem HxP.blk {w : Wi} {X : Cx} {G : Gh} (c : HxP w X G) (scope : Scope) (s : Shared) (H : Hp) (C : Addr) (cl : List (Str × Addr)) (fp : List Addr) (p : Addr × Obj) (hot : Hot1 X.A p) : HxP w.blk (blkH X s H scope (compEnvC scope cl C X.env) fp p) (G.blk scope) where
  kd := c.kd
  nn := c.nn
  nd := c.nd
  sc := by
    show relS scope X.env.scope = relS scope G.sc
    rw [c.sc]
  hc := ⟨p, hot, List.mem_cons_self ..⟩
  isa := fun C b p1 p2 p3 pos h => by cases h
def hslot (G : Gh) (x : Str) : Option Nat := if okName x = true then (match G.sc.names.lookup x with
  | some .local => let i := G.N.idxOf x; if G.N[i]? = some x then some i else none
  | _ => none) else none
def hNs (G : Gh) : List Expr → Option (List Nat)
  | [] => some []
  | .Name x _ :: es => (match hslot G x, hNs G es with
    | some i, some is => some (i :: is)
    | _, _ => none)
  | _ :: _ => none
def hG (G : Gh) : Expr → Option Tg
  | .Name x _ => (hslot G x).map .n
  | .Tuple es _ _ => (hNs G es).map .t
  | _ => none
def hown (G : Gh) (scope : Scope) : List (Str × Nat) := scope.names.filterMap fun y => match y.2 with
  | .local => let i := G.N.idxOf y.1; if G.N[i]? = some y.1 then some (y.1, i) else none
  | _ => none
section
variable {w : Wi} {X : Cx} {G : Gh}
theorem hslot_some (c : HxP w X G) {x : Str} {i : Nat} (h : hslot G x = some i) : X.N[i]? = some x ∧ X.env.scope.names.lookup x = some .local ∧ okName x = true := by
  unfold hslot at h
  rcases ite_some h with ⟨ho, h⟩ | ⟨_, h⟩
  · rw [c.nn, c.sc]
    split at h
    · rename_i e
      rcases ite_some h with ⟨e2, k⟩ | ⟨_, k⟩
      · cases k; exact ⟨e2, e, ho⟩
      · cases k
    · cases h
  · cases h
theorem hName_ok (c : HxP w X G) {x : Str} {p : Pos} {i : Nat} (h : hslot G x = some i) : PG X (.Name x p) (tG w (.n i)) :=
  have z := hslot_some c h
  sg_name c.nd z.1 (.inl z.2.1) (.inr z.2.1)
theorem hNs_ok (c : HxP w X G) : ∀ {es : List Expr} {is : List Nat}, hNs G es = some is → PGs X es (tGs w is) ∧ (assignEach es X.env).length = is.length ∧ (assignEach es X.env).findIdx? (·.1) = none
  | [], is, h => by cases h; exact ⟨sgs_nil, rfl, rfl⟩
  | e :: es, is, h => by
    cases e with
    | Name x p =>
      have h : (match hslot G x, hNs G es with
        | some i, some is => some (i :: is)
        | _, _ => none) = some is := h
      split at h
      · rename_i i is' e1 e2
        cases h
        obtain ⟨h1, h2, h3⟩ := hNs_ok c e2
        refine ⟨sgs_cons (hName_ok c e1) h1 rfl, ?_, ?_⟩
        · show (assignEach es X.env).length + 1 = is'.length + 1
          rw [h2]
        · show List.findIdx? _ ((false, assign (.Name x p) X.env) :: assignEach es X.env) = none
          rw [List.findIdx?_cons]
          simp only [Bool.false_eq_true, if_false, h3, Option.map_none]
      · cases h
    | _ => cases h
theorem hG_ok (c : HxP w X G) {e : Expr} {t : Tg} (h : hG G e = some t) : PG X e (tG w t) := by
  cases e with
  | Name x p =>
    obtain ⟨i, g, rfl⟩ := Option.map_eq_some_iff.mp (show (hslot G x).map .n = some t from h)
    exact hName_ok c g
  | Tuple es k p =>
    obtain ⟨is, g, rfl⟩ := Option.map_eq_some_iff.mp (show (hNs G es).map .t = some t from h)
    obtain ⟨h1, h2, h3⟩ := hNs_ok c g
    exact sg_tupH c.kd c.hc h1 h2 h3
  | _ => cases h
end
/-! ### expressions -/
abbrev DH := Gh → Expr → Option (M Hd)
structure DHok (f : DH) (t : DH) : Prop where
  E : ∀ {w : Wi} {X : Cx} {G : Gh} {e : Expr} {m : M Hd}, HxP w X G → f G e = some m → PE X e (tK w m)
  T : ∀ {w : Wi} {X : Cx} {G : Gh} {e : Expr} {m : M Hd}, HxP w X G → t G e = some m → PT X e (tT w m)
def hIfs (t : DH) (G : Gh) : List Expr → Option (M Hd)
  | [] => some (mC (.bool true))
  | [c] => t G c
  | _ => none
def hComp (f t : DH) (G : Gh) (elt : Expr) (gens : List Comprehension) (scope : Scope) : Option (M Hd) := match gens with
  | [⟨tg, iter, ifs, a⟩] => if a = 0 ∧ isSet iter = false ∧ blkC G.N G.sc scope (hown G scope) = true then (match f G iter, hG (G.blk scope) tg, hIfs t (G.blk scope) ifs, f (G.blk scope) elt with
    | some mi, some tt, some mc, some me => if (tt.slots.all fun i => ((hown G scope).map (·.2)).contains i) = true then some (mComp ((hown G scope).map (·.2)) (mSeqL mi) tt mc me) else none
    | _, _, _, _ => none) else none
  | _ => none
def hBin (f : DH) (G : Gh) (a : Expr) (op : Operator) (b : Expr) : Option (M Hd) := match binF op, f G a, f G b with
  | some g, some ma, some mb => some (mBin g ma mb)
  | _, _, _ => none
def hIf (f t : DH) (G : Gh) (c a b : Expr) : Option (M Hd) := match t G c, f G a, f G b with
  | some mc, some ma, some mb => some (mIf mc ma mb)
  | _, _, _ => none
def hCall (f : DH) (G : Gh) (g : Expr) (args : List Expr) (kws : List Keyword) (cpos : Pos) : Option (M Hd) := match g, kws with
  | .Name x _, [] => (match args with
    | [.Name y _, .Name C _] => if x = "isinstance" ∧ y = G.nm then (G.is C).map (mIs G.i G.a) else none
    | _ => none)
  | .Attribute (.Constant (.str sep) _ _) at_ apos, [] => (match args with
    | [e] => if at_ = "join" ∧ isStar e = false ∧ (apos.endLine == cpos.line) = true then (f G e).map (mUn (fJoin sep)) else none
    | _ => none)
  | _, _ => none
def hE (f t : DH) (G : Gh) : Expr → Option (M Hd)
  | .Constant c _ _ => constE c
  | .Name x _ => (hslot G x).map mSlot
  | .Tuple es _ _ => (denL (escF (f G)) es).map mTup
  | .List es _ => (denL (escF (f G)) es).map mLst
  | .BinOp a op b _ => hBin f G a op b
  | .IfExp c a b _ => hIf f t G c a b
  | .ListComp elt gens scope _ => hComp f t G elt gens scope
  | .Call g args kws cpos => hCall f G g args kws cpos
  | _ => none
def hT (f t : DH) (G : Gh) : Expr → Option (M Hd)
  | .BoolOp op vs pos => boolE (t G) op vs pos
  | .Name x p => hE f t G (.Name x p)
  | .Call g args kws p => hE f t G (.Call g args kws p)
  | _ => none
def dh : Nat → DH × DH
  | 0 => (fun _ _ => none, fun _ _ => none)
  | n + 1 => (hE (dh n).1 (dh n).2, hT (dh n).1 (dh n).2)
section
variable {w : Wi} {X : Cx} {G : Gh} {f t : DH} {m : M Hd}
theorem hesc_ok (D : DHok f t) (c : HxP w X G) {e : Expr} (h : escF (f G) e = some m) : PE X e (tK w m) := by
  obtain ⟨ma, e1, rfl⟩ := Option.map_eq_some_iff.mp h
  exact se_esc (D.E c e1)
theorem hIfs_ok (D : DHok f t) (c : HxP w X G) {ifs : List Expr} (h : hIfs t G ifs = some m) : PTs X ifs (tT w m) := by
  unfold hIfs at h
  split at h
  · cases h; exact sts_nil
  · exact sts_one (D.T c h)
  · cases h
theorem hComp_ok (D : DHok f t) (c : HxP w X G) {elt : Expr} {gens : List Comprehension} {scope : Scope} {p : Pos} (h : hComp f t G elt gens scope = some m) : PE X (.ListComp elt gens scope p) (tK w m) := by
  unfold hComp at h
  split at h
  · rename_i tg iter ifs a
    split at h
    · rename_i h0
      obtain ⟨h1, h2, h3⟩ := h0
      split at h
      · rename_i mi tt mc me e1 e2 e3 e4
        split at h
        · rename_i ha
          cases h
          subst h1
          refine se_lcH c.hc c.nd (si_seqH c.kd (D.E c e1)) ?_ (fun i hi => ?_) (fun s H C cl fp p hp => hG_ok (c.blk scope s H C cl fp p hp) e2) (fun s H C cl fp p hp => hIfs_ok D (c.blk scope s H C cl fp p hp) e3) (fun s H C cl fp p hp => D.E (c.blk scope s H C cl fp p hp) e4) (notSet h2 _)
          · rw [c.nn, c.sc]
            exact blkOk_by h3
          · have z := List.all_eq_true.mp ha i hi
            simpa using z
        · cases h
      · cases h
    · cases h
  · cases h
theorem hCall_ok (D : DHok f t) (c : HxP w X G) {g : Expr} {args : List Expr} {kws : List Keyword} {cpos : Pos} (h : hCall f G g args kws cpos = some m) : PE X (.Call g args kws cpos) (tK w m) := by
  unfold hCall at h
  split at h
  · split at h
    · rcases ite_some h with ⟨⟨h1, h2⟩, k⟩ | ⟨_, k⟩
      · subst h1; subst h2
        obtain ⟨b, e1, rfl⟩ := Option.map_eq_some_iff.mp k
        exact c.isa _ _ _ _ _ _ e1
      · cases k
    · cases h
  · split at h
    · rcases ite_some h with ⟨⟨h1, h2, h3⟩, k⟩ | ⟨_, k⟩
      · subst h1
        obtain ⟨ma, e1, rfl⟩ := Option.map_eq_some_iff.mp k
        exact se_join c.kd (D.E c e1) (star_cons h2) h3
      · cases k
    · cases h
  · cases h
theorem hE_ok (D : DHok f t) (c : HxP w X G) {e : Expr} (h : hE f t G e = some m) : PE X e (tK w m) := by
  cases e with
  | Constant => exact constE_ok h
  | Name x p =>
    obtain ⟨i, e1, rfl⟩ := Option.map_eq_some_iff.mp (show (hslot G x).map mSlot = some m from h)
    obtain ⟨z1, z2, z3⟩ := hslot_some c e1
    obtain ⟨h1, h2, h3⟩ := okName_of z3
    exact se_var z1 (.inl z2) h1 h2
  | Tuple es k p =>
    obtain ⟨ms, e1, rfl⟩ := Option.map_eq_some_iff.mp (show (denL (escF (f G)) es).map mTup = some m from h)
    exact se_tup (denL_pa (fun e m => hesc_ok D c) e1)
  | List es p =>
    obtain ⟨ms, e1, rfl⟩ := Option.map_eq_some_iff.mp (show (denL (escF (f G)) es).map mLst = some m from h)
    exact se_lst (denL_pa (fun e m => hesc_ok D c) e1)
  | BinOp a op b p =>
    have h : hBin f G a op b = some m := h
    unfold hBin at h
    split at h
    · rename_i g ma mb e1 e2 e3
      cases h
      obtain ⟨r, h1, h2⟩ := binF_ok c.kd e1
      exact se_bin h1 h2 (D.E c e2) (D.E c e3)
    · cases h
  | IfExp q a b p =>
    have h : hIf f t G q a b = some m := h
    unfold hIf at h
    split at h
    · rename_i mc ma mb e1 e2 e3
      cases h
      exact se_if (D.T c e1) (D.E c e2) (D.E c e3)
    · cases h
  | ListComp => exact hComp_ok D c h
  | Call => exact hCall_ok D c h
  | _ => cases h
theorem hBool_ok (D : DHok f t) (c : HxP w X G) {op : BoolOp} {vs : List Expr} {p : Pos} (h : boolE (t G) op vs p = some m) : PT X (.BoolOp op vs p) (tT w m) := by
  unfold boolE at h
  split at h
  · cases h
  · cases op with
    | And => exact (pw_and1 (D.T c h)).pt
    | Or => exact (pw_or1 (D.T c h)).pt
  · split at h
    · rename_i ma mb e1 e2
      cases op with
      | And => cases h; exact (sw_and (D.T c e1) (pw_of (D.T c e2))).pt
      | Or => cases h; exact (sw_or (D.T c e1) (pw_of (D.T c e2))).pt
    · cases h
theorem hT_ok (D : DHok f t) (c : HxP w X G) {e : Expr} (h : hT f t G e = some m) : PT X e (tT w m) := by
  cases e with
  | BoolOp => exact hBool_ok D c h
  | Name => exact st_val (hE_ok D c h) fun _ => rfl
  | Call => exact st_val (hE_ok D c h) fun _ => rfl
  | _ => cases h
end
theorem dh_ok : ∀ n, DHok (dh n).1 (dh n).2
  | 0 => ⟨fun _ h => (by cases h), fun _ h => (by cases h)⟩
  | n + 1 => ⟨fun c h => hE_ok (dh_ok n) c h, fun c h => hT_ok (dh_ok n) c h⟩
/-! ### statements -/
def hAsg (f : DH) (G : Gh) (ts : List Expr) (e : Expr) : Option (M Fl) := match ts with
  | [.Name x _] => if isComp e = true then none else (match hslot G x, f G e with
    | some i, some m => some (mSet i m)
    | _, _ => none)
  | _ => none
def hIfS (f t : DH) (r : Stmt → Option (M Fl)) (G : Gh) (c : Expr) (a b : List Stmt) : Option (M Fl) := match t G c, denBlk r a, denBlk r b with
  | some mc, some ma, some mb => some (mIfS mc (mBlk ma) (mBlk mb))
  | _, _, _ => none
def hS (f t : DH) (r : Stmt → Option (M Fl)) (G : Gh) : Stmt → Option (M Fl)
  | .Return (some e) _ => (f G e).map mRet
  | .Assign ts e _ => hAsg f G ts e
  | .If c a b _ => hIfS f t r G c a b
  | _ => none
def dhS (G : Gh) : Nat → Stmt → Option (M Fl)
  | 0 => fun _ => none
  | n + 1 => hS (dh 20).1 (dh 20).2 (dhS G n) G
def dhB (G : Gh) (b : List Stmt) : Option (M Fl) := (denBlk (dhS G 8) b).map mBlk
section
variable {w : Wi} {X : Cx} {G : Gh}
theorem hS_ok {f t : DH} {r : Stmt → Option (M Fl)} (D : DHok f t) (c : HxP w X G) (hr : SOk w X r) {s : Stmt} {m : M Fl} (h : hS f t r G s = some m) : PS X s (tS w m) := by
  cases s with
  | Return v p =>
    cases v with
    | none => cases h
    | some e =>
      obtain ⟨m', e1, rfl⟩ := Option.map_eq_some_iff.mp (show (f G e).map mRet = some m from h)
      exact ss_ret (D.E c e1)
  | Assign ts e p =>
    have h : hAsg f G ts e = some m := h
    unfold hAsg at h
    split at h
    · split at h
      · cases h
      · rename_i hc
        split at h
        · rename_i i m' e1 e2
          cases h
          obtain ⟨z1, z2, _⟩ := hslot_some c e1
          exact ss_set c.nd z1 (.inl z2) (D.E c e2) (swap0 (by simpa using hc)) (.inr z2)
        · cases h
    · cases h
  | If q a b p =>
    have h : hIfS f t r G q a b = some m := h
    unfold hIfS at h
    split at h
    · rename_i mc ma mb e1 e2 e3
      cases h
      exact ss_if (D.T c e1) (denBlk_ok hr e2) (denBlk_ok hr e3)
    · cases h
  | _ => cases h
theorem dhS_ok (c : HxP w X G) : ∀ n, SOk w X (dhS G n)
  | 0 => fun h => by cases h
  | n + 1 => fun h => hS_ok (dh_ok 20) c (dhS_ok c n) h
theorem dhB_ok (c : HxP w X G) {b : List Stmt} {m : M Fl} (h : dhB G b = some m) : PSs X b (tS w m) := by
  obtain ⟨ms, e1, rfl⟩ := Option.map_eq_some_iff.mp h
  exact denBlk_ok (dhS_ok c 8) e1
end
end Pu
set_option Elab.async false
set_option linter.all false
set_option maxRecDepth 100000
set_option maxHeartbeats 2000000
/-! Ph7: a def that calls what it gets, and tells in words what was raised. -/
namespace Pu
open PySem PySem.Spec PyProof PyProof.Rows L2 LamX L2H
theorem pss_ex {X : Cx} {b : List Stmt} {ι : Type} {P : ι → Prop} {t : ι → TS} (h : ∀ i, P i → PSs X b (t i)) : PSs X b (fun D σ H => ∃ i, P i ∧ t i D σ H) := ⟨fun pins s σ H D I ⟨i, p, q⟩ => (h i p).run pins s σ H D I q⟩
/-- what is asked of an exception class that isinstance is to judge -/
def excCB (K : PySem.W.Frag) (D : Addr) : Bool := He.eqO (PySem.W.findIn K (.ref D) "__getattribute__") (some (some (.builtin "BaseException.__getattribute__"))) && (He.eqO (PySem.W.findIn K (.ref D) "__getattr__") (some none) &&
  (decide (PySem.W.subIn K (.ref D) (.type "BaseException") = some true) && (PySem.W.hasDictIn K D && (He.eqO (PySem.W.findIn K (.ref D) "__class__") (some (some (.builtin "object.__class__"))) &&
  (He.eqO (PySem.W.specialIn K (.builtin "object.__class__") "__get__") (some (some (.builtin "getset_descriptor.__get__"))) && (decide (PySem.W.takesIn K (.builtin "object.__class__") = some true) && decide (PySem.W.mroIn K D (.type "object") = some true)))))))
theorem excC_of {K : PySem.W.Frag} {D : Addr} (h : excCB K D = true) : ExcC K D := by
  unfold excCB at h
  simp only [Bool.and_eq_true] at h
  obtain ⟨h1, h2, h3, h4, h5, h6, h7, h8⟩ := h
  exact ⟨He.eqO_ok h1, He.eqO_ok h2, of_decide_eq_true h3, h4, He.eqO_ok h5, He.eqO_ok h6, of_decide_eq_true h7, of_decide_eq_true h8⟩
def clsB (K : PySem.W.Frag) (e : Str) (cs : List Str) : Bool := cs.all fun c => excCB K (He.ga K c) && decide (PySem.W.exmOne K (.ref (He.ga K c)) (.ref (He.ga K e)) = some true)
def isB (K : PySem.W.Frag) (is : List (Str × Str × Bool)) : Bool := is.all fun q => decide (PySem.W.kitOne K (.ref (He.ga K q.1)) (.ref (He.ga K q.2.1)) = some q.2.2)
/-- the table of isinstance's answers -/
def isF (is : List (Str × Str × Bool)) (c C : Str) : Option Bool := (is.find? fun q => q.1 == c && q.2.1 == C).map (·.2.2)
theorem isF_mem {is : List (Str × Str × Bool)} {c C : Str} {b : Bool} (h : isF is c C = some b) : (c, C, b) ∈ is := by
  obtain ⟨q, e, z⟩ := Option.map_eq_some_iff.mp h
  have h1 := List.mem_of_find?_eq_some e
  have h2 := List.find?_some e
  simp only [Bool.and_eq_true, beq_iff_eq] at h2
  obtain ⟨q1, q2, q3⟩ := q
  obtain ⟨rfl, rfl⟩ := h2
  cases z
  exact h1
/-- what a suite runs from -/
def envE (n i : Nat) (a : Addr) : Ev := (List.replicate n none).set i (some (.obj (.ref a)))
theorem envE_obj {n i : Nat} {a : Addr} {j : Nat} {s : Sl} (h : (envE n i a)[j]? = some (some s)) : j = i ∧ s = .obj (.ref a) := by
  rcases set_get h with ⟨e1, e2⟩ | ⟨_, h⟩
  · cases e2; exact ⟨e1, rfl⟩
  · rw [List.getElem?_replicate] at h
    split at h <;> cases h
theorem envE_mu {n i : Nat} {a b : Addr} {σ : L2.St} : ¬ Mu (envE n i a) σ b := fun ⟨j, s, h1, h2, _⟩ => by
  obtain ⟨_, rfl⟩ := envE_obj h1
  cases h2
def tryOf : List Stmt → Option (Str × Str × Str × Stmt × List Stmt × Str)
  | [.Try [.Expr (.Call (.Name a _) [] [] _) _] [.ExceptHandler (some (.Name e _)) (some y) (b0 :: su) _] [] [] _, .Return (some (.Constant (.str ret) _ _)) _] => some (a, e, y, b0, su, ret)
  | _ => none
theorem tryOf_eq {b : List Stmt} {a e y ret : Str} {b0 : Stmt} {su : List Stmt} (h : tryOf b = some (a, e, y, b0, su, ret)) : ∃ p1 p2 p3 p4 p5 p6 j p7 p8,
    b = [.Try [.Expr (.Call (.Name a p1) [] [] p2) p3] [.ExceptHandler (some (.Name e p4)) (some y) (b0 :: su) p5] [] [] p6, .Return (some (.Constant (.str ret) j p7)) p8] := by
  unfold tryOf at h
  split at h
  · cases h; exact ⟨_, _, _, _, _, _, _, _, _, rfl⟩
  · cases h
section
variable {P : Program} {w : World} {K : PySem.W.Frag} {mg : Str → Option Value} {base : Heap}
theorem tel_of {x a e y ret : Str} {st : Stmt} {fd : FuncData} {b0 : Stmt} {su : List Stmt} {N : List Str} {i : Nat} {cs : List Str} {is : List (Str × Str × Bool)} {htL : List (Str × Str)} {sw : Str → Addr → M Fl} (F : FunD K x x (defArgs st) (defBody st) (defScope st) [] [] (He.ga K x) fd) (gx : mg x = some (.ref (He.ga K x))) (hb : Binds K fd [a] [])
    (S : FnScope N [a] (defScope st)) (hs : tryOf (defBody st) = some (a, e, y, b0, su, ret)) (h0 : N[0]? = some a) (hi : N[i]? = some y) (hly : (defScope st).names.lookup y = some .local) (hge : (defScope st).names.lookup e = some .globalImplicit) (hgi : (defScope st).names.lookup ("isinstance" : Str) = some .globalImplicit) (hva : Vis (defScope st) a)
    (da : okName a = true) (de : okName e = true) (dy : okName y = true) (me : mg e = some (.ref (He.ga K e))) (mi : mg "isinstance" = none) (c1 : clsB K e cs = true) (c2 : isB K is = true)
    (hC : ∀ q ∈ is, (defScope st).names.lookup q.2.1 = some .globalImplicit ∧ okName q.2.1 = true ∧ mg q.2.1 = some (.ref (He.ga K q.2.1)))
    (hd : ∀ c ∈ cs, ∀ aD, dhB ⟨N, defScope st, y, i, aD, isF is c⟩ (b0 :: su) = some (sw c aD)) (hr : ∀ q ∈ htL, q.1 ∈ cs ∧ ∀ aD, Wd (sw q.1 aD (envE N.length i aD)) fun f _ => f = .ret (.fz (.str q.2))) :
    TelOk P w K mg base (XRK K) x ret (fun ex => (htL.lookup ex.cls).map .str) := by
  obtain ⟨o1, o2, dV, o3, o4, o5, o6, o7, o8, o9, e0, lk, cd, hD, hW⟩ := F.ex
  subst e0
  obtain ⟨k1, k2, _⟩ := okName_of da
  obtain ⟨k3, _, _⟩ := okName_of de
  obtain ⟨k4, k5, _⟩ := okName_of dy
  have hcls : ∀ c ∈ cs, ExcC K (He.ga K c) ∧ PySem.W.exmOne K (.ref (He.ga K c)) (.ref (He.ga K e)) = some true := fun c hc => by
    obtain ⟨z1, z2⟩ := Bool.and_eq_true_iff.mp (List.all_eq_true.mp c1 c hc)
    exact ⟨excC_of z1, of_decide_eq_true z2⟩
  let ts : Addr → Value → Option Addr → TS := fun aD cls d D σ H => ∃ c, (c ∈ cs ∧ cls = .ref (He.ga K c) ∧ d = none) ∧ tS ⟨K, XRK K, fun _ _ _ _ => False⟩ (sw c aD) D σ H
  refine ⟨He.ga K x, a, defArgs st, defBody st, defScope st, dV, o3, o4, o5, o6, o7, o8, o1, o2, o9, N, fun Q cls d H' => ∀ σ' : L2.St, σ'.length = N.length → wAs K (.ref (He.ga K e)) i ts (fun _ _ _ _ => False) { nx := fun _ H' => Q (.str ret) H', rt := Q } cls d σ' H',
    gx, F.kp, lk, cd, hb, S, h0, hva, k1, k2, fun X q q1 q2 q3 q4 q5 => ?_, fun ex d' ed cls dA Fh H Q hx hsub htab hnt k σ' hl => ?_⟩
  · subst q1; subst q2; subst q3; subst q4; subst q5
    obtain ⟨p1, p2, p3, p4, p5, p6, j, p7, p8, eb⟩ := tryOf_eq hs
    rw [eb]
    refine err_gives (CS := He.ga X.K e) (i := i) (ts := ts) S.nd hi hly hge me k3 (fun f => rfl) fun s H aD oe cls d pn hz hf => ?_
    refine pss_ex fun c ⟨hc, ec, ed⟩ => ?_
    subst ec; subst ed
    refine dhB_ok (G := ⟨N, defScope st, y, i, aD, isF is c⟩) ⟨rfl, rfl, S.nd, rfl, hot_suite hz hf, fun C b p1 p2 p3 pos h => ?_⟩ (hd c hc aD)
    have hm := isF_mem h
    obtain ⟨z1, z2, z3⟩ := hC _ hm
    exact se_is (Y := (gcx X N x (defScope st) (He.ga X.K x) o7 s H).nox) (hcls c hc).1 hz.zc hf hgi mi z1 z3 (of_decide_eq_true (List.all_eq_true.mp c2 _ hm)) hi (.inl hly) k4 k5 (okName_of z2).1
  · obtain ⟨h1, h2, h3⟩ := hx
    obtain ⟨z, ez, rfl⟩ := Option.map_eq_some_iff.mp ed
    obtain ⟨hc, hrun⟩ := hr _ (mem_of_look ez)
    refine ⟨true, by rw [h1]; exact (hcls _ hc).2, fun _ aD hn => ⟨ex.cls, ⟨hc, h1, h3⟩, Fh, envE N.length i aD, ⟨?_, hsub, fun j s h => ?_, fun j l s t b hj hl' ms mt _ _ => ?_, htab, hnt⟩, ?_⟩, fun h => by cases h⟩
    · unfold envE
      rw [List.length_set, List.length_replicate, List.length_set, hl]
    · obtain ⟨rfl, rfl⟩ := envE_obj h
      have hlt : j < σ'.length := by
        rw [hl]
        exact (List.getElem?_eq_some_iff.mp hi).1
      exact ⟨.ref aD, by rw [set_getV, if_pos rfl, if_pos hlt], rfl⟩
    · obtain ⟨_, rfl⟩ := envE_obj hj
      cases ms
    · have hrun := hrun aD
      cases er : sw ex.cls aD (envE N.length i aD) with
      | bad => rw [er, wd_bad] at hrun; exact hrun.elim
      | exc x ρ' => rw [er, wd_exc] at hrun; exact hrun.elim
      | ok f ρ' =>
        rw [er, wd_ok] at hrun
        have hrun : f = .ret (.fz (.str z)) := hrun
        subst hrun
        intro v σ2 F2 H2 p rt
        refine k v F2 H2 ⟨p.le, p.st.le, fun b o h t _ => p.keep b o h t envE_mu, p.st.tb, p.dom, fun b o h => ?_, p.st.nt, fun i xs h => by simp at h⟩ rt
        rcases p.new b o h with z | z | z
        · exact .inl z
        · exact .inr z
        · exact (envE_mu z).elim
end
/-! ### a written tuple of ints -/
def tupB (K : PySem.W.Frag) (x : Str) (ns : List Int) : Bool := match K.lookup (He.ga K x) with
  | some ⟨.type "tuple", _, .seq its _, _⟩ => decide (its.size ≤ sizeLine) && decide (its.toList.map (fun v => match v with | .int i _ => some i | _ => none) = ns.map some)
  | _ => false
theorem vals_of : ∀ {vs : List Value} {ns : List Int}, vs.map (fun v => match v with | .int i _ => some i | _ => none) = ns.map some → Vals (ns.map V.int) vs
  | [], [], _ => .nil
  | [], _ :: _, h => by cases h
  | _ :: _, [], h => by cases h
  | v :: vs, n :: ns, h => by
    rw [List.map_cons, List.map_cons] at h
    obtain ⟨h1, h2⟩ := List.cons.inj h
    refine .cons ?_ (vals_of h2)
    cases v with
    | int i t => cases h1; exact ⟨t, rfl⟩
    | _ => cases h1
theorem gv_tup {P : Program} {w : World} {K : PySem.W.Frag} {mg : Str → Option Value} {base : Heap} {XR : Exn → Value → Option Addr → Hp → Prop} {k : Nat} {x : Str} {ns : List Int} (g : mg x = some (.ref (He.ga K x))) (c : tupB K x ns = true) : GvK P w K mg base XR k x (.con (.tuple (ns.map PyData.int))) := by
  refine ⟨_, .ref (He.ga K x), g, rfl, fun F => ?_⟩
  unfold tupB at c
  split at c
  · rename_i d its n sl e
    obtain ⟨c1, c2⟩ := Bool.and_eq_true_iff.mp c
    exact .tup (.inr ⟨_, its, n, e, rfl, rfl, of_decide_eq_true c1, vals_of (of_decide_eq_true c2)⟩) (RpAll.ints ns)
  · cases c
/-! ### a written tuple of texts -/
def tupSB (K : PySem.W.Frag) (x : Str) (zs : List Str) : Bool := match K.lookup (He.ga K x) with
  | some ⟨.type "tuple", _, .seq its _, _⟩ => decide (its.size ≤ sizeLine) && decide (its.toList.map (fun v => match v with | .str z _ => some z | _ => none) = zs.map some)
  | _ => false
theorem valsS_of : ∀ {vs : List Value} {zs : List Str}, vs.map (fun v => match v with | .str z _ => some z | _ => none) = zs.map some → Vals (zs.map V.str) vs
  | [], [], _ => .nil
  | [], _ :: _, h => by cases h
  | _ :: _, [], h => by cases h
  | v :: vs, n :: zs, h => by
    rw [List.map_cons, List.map_cons] at h
    obtain ⟨h1, h2⟩ := List.cons.inj h
    refine .cons ?_ (valsS_of h2)
    cases v with
    | str z t => cases h1; exact ⟨t, rfl⟩
    | _ => cases h1
theorem RpAll.strs {K : PySem.W.Frag} {F : Hp} : ∀ zs : List Str, RpAll K F (zs.map V.str) (zs.map PyData.str)
  | [] => .nil
  | z :: r => .cons (.str z) (RpAll.strs r)
theorem gv_tupS {P : Program} {w : World} {K : PySem.W.Frag} {mg : Str → Option Value} {base : Heap} {XR : Exn → Value → Option Addr → Hp → Prop} {k : Nat} {x : Str} {zs : List Str} (g : mg x = some (.ref (He.ga K x))) (c : tupSB K x zs = true) : GvK P w K mg base XR k x (.con (.tuple (zs.map PyData.str))) := by
  refine ⟨_, .ref (He.ga K x), g, rfl, fun F => ?_⟩
  unfold tupSB at c
  split at c
  · rename_i d its n sl e
    obtain ⟨c1, c2⟩ := Bool.and_eq_true_iff.mp c
    exact .tup (.inr ⟨_, its, n, e, rfl, rfl, of_decide_eq_true c1, valsS_of (of_decide_eq_true c2)⟩) (RpAll.strs zs)
  · cases c
/-- Wd, to be computed -/
def WdE {α : Type} (r : Res α) (Q : α → Ev → Prop) : Prop := match r with
  | .ok a ρ => Q a ρ
  | _ => False
theorem wd_e {α : Type} {r : Res α} {Q : α → Ev → Prop} : Wd r Q = WdE r Q := by
  cases r with
  | ok a ρ => exact wd_ok
  | exc x ρ => exact wd_exc
  | bad => exact wd_bad
/-- a suite, off its def -/
def suOf (b : List Stmt) : Stmt × List Stmt := match tryOf b with
  | some (_, _, _, b0, su, _) => (b0, su)
  | none => (.Pass ⟨0, 0, 0, 0⟩, [])
end Pu
set_option Elab.async false
set_option linter.all false
set_option maxRecDepth 100000
set_option maxHeartbeats 0
/-! printed by gen.py: the defs of law_k15_whole_piece_words -/
namespace La
open PySem L2 PyProof.Rows Pu
def top (i : Nat) : Stmt := PySem.Challenge.pw_surfacestell_k15_whole_piece_words.main.body.getD i (.Pass ⟨0, 0, 0, 0⟩)
/-! ### _law_error, which tells what was raised -/
def st__law_error : Stmt := top 39
def N__law_error : List Str := ["call", "e", "pairs", "word", "is_so"]
def cs__law_error : List Str := ["InvalidNumber", "InvalidWord"]
def htL__law_error : List (Str × Str) := [("InvalidNumber", ("number" : Str)), ("InvalidWord", ("word" : Str))]
def is__law_error : List (Str × Str × Bool) := [("InvalidNumber", "InvalidNumber", true), ("InvalidNumber", "InvalidWord", false), ("InvalidWord", "InvalidNumber", false), ("InvalidWord", "InvalidWord", true)]
def ht__law_error : Exn → Option D := fun ex => (htL__law_error.lookup ex.cls).map .str
def sw__law_error (c : Str) (a : Addr) : M Fl := mBlk [mSet 2 (mLst [mEsc (mTup [mEsc (mC (.str ("number" : Str))), mEsc (mIs 1 a ((isF is__law_error c "InvalidNumber").getD false))]), mEsc (mTup [mEsc (mC (.str ("word" : Str))), mEsc (mIs 1 a ((isF is__law_error c "InvalidWord").getD false))])]), mRet (mUn (fJoin ("" : Str)) (mComp [3, 4] (mSeqL (mSlot 2)) (.t [3, 4]) (mSlot 4) (mSlot 3)))]
theorem sc__law_error : FnScope N__law_error ["call"] (defScope st__law_error) := ⟨rfl, rfl, rfl, by decide +kernel, rfl, by decide +kernel, by decide +kernel⟩
theorem ty__law_error : tryOf (defBody st__law_error) = some (("call" : Str), ("SurfaceError" : Str), ("e" : Str), (suOf (defBody st__law_error)).1, (suOf (defBody st__law_error)).2, ("none" : Str)) := by kernel_rfl
theorem sd__law_error_0 (a : Addr) : dhB ⟨N__law_error, defScope st__law_error, "e", 1, a, isF is__law_error "InvalidNumber"⟩ ((suOf (defBody st__law_error)).1 :: (suOf (defBody st__law_error)).2) = some (sw__law_error "InvalidNumber" a) := by kernel_rfl
theorem sr__law_error_0 (a : Addr) : Wd (sw__law_error "InvalidNumber" a (envE 5 1 a)) fun f _ => f = .ret (.fz (.str ("number" : Str))) := by
  unfold sw__law_error envE
  simp [mIs]
  simp only [wd_e]
  refine Eq.mpr (?_ : _ = (RV.fz (PyData.str ("number" : Str)) = RV.fz (PyData.str ("number" : Str)))) rfl
  kernel_rfl
theorem sd__law_error_1 (a : Addr) : dhB ⟨N__law_error, defScope st__law_error, "e", 1, a, isF is__law_error "InvalidWord"⟩ ((suOf (defBody st__law_error)).1 :: (suOf (defBody st__law_error)).2) = some (sw__law_error "InvalidWord" a) := by kernel_rfl
theorem sr__law_error_1 (a : Addr) : Wd (sw__law_error "InvalidWord" a (envE 5 1 a)) fun f _ => f = .ret (.fz (.str ("word" : Str))) := by
  unfold sw__law_error envE
  simp [mIs]
  simp only [wd_e]
  refine Eq.mpr (?_ : _ = (RV.fz (PyData.str ("word" : Str)) = RV.fz (PyData.str ("word" : Str)))) rfl
  kernel_rfl
/-! ### _law_cup -/
def st__law_cup : Stmt := top 34
def N__law_cup : List Str := ["script", "cell"]
def ps__law_cup : List Str := ["script"]
def gl__law_cup : List (Str × Gv) := [("abs", .blt), ("int", .blt), ("list", .blt)]
def m__law_cup : M Fl := mBlk [mSet 1 (mPrim fAbs [mBin fItem (mBin fAdd (mPrim fList [mSlot 0]) (mLst [mEsc (mC (.int 0))])) (mC (.int 0))]), mRet (mLst [mEsc (mIf (mBin fGe (mSlot 1) (mBin fPow (mC (.int 10)) (mC (.int 18)))) (mBin fDiv (mSlot 1) (mC (.int 313))) (mC (.int 0))), mEsc (mBin fMod (mPrim fInt [mBin fAdd (mBin fMul (mSlot 1) (mC (.int 1093))) (mC (.int 95021))]) (mC (.int 1048576)))])]
def p__law_cup : PF := pfOf 2 m__law_cup
theorem dn__law_cup : denD ⟨N__law_cup, defScope st__law_cup, fun _ => true, gl__law_cup, false, []⟩ (defBody st__law_cup) = some (m__law_cup) := by kernel_rfl
theorem sc__law_cup : FnScope N__law_cup ps__law_cup (defScope st__law_cup) := ⟨rfl, rfl, rfl, by decide +kernel, rfl, by decide +kernel, by decide +kernel⟩
/-! ### _law_sort -/
def st__law_sort : Stmt := top 37
def N__law_sort : List Str := ["value"]
def ps__law_sort : List Str := ["value"]
def gl__law_sort : List (Str × Gv) := [("isinstance", .blt), ("bool", .blt), ("int", .blt), ("str", .blt), ("tuple", .blt), ("list", .blt)]
def m__law_sort : M Fl := mBlk [mIfS (mOr (mBin (fIs false) (mSlot 0) (mC .none)) (mUn (fIsa "bool") (mSlot 0))) (mBlk [mRet (mIf (mBin (fIs false) (mSlot 0) (mC .none)) (mC (.int 0)) (mC (.int 1)))]) (mBlk []), mIfS (mOr (mUn (fIsa "int") (mSlot 0)) (mUn (fIsa "str") (mSlot 0))) (mBlk [mRet (mIf (mUn (fIsa "int") (mSlot 0)) (mC (.int 2)) (mC (.int 3)))]) (mBlk []), mRet (mIf (mUn (fIsa "tuple") (mSlot 0)) (mC (.int 4)) (mIf (mUn (fIsa "list") (mSlot 0)) (mC (.int 5)) (mC (.int 6))))]
def p__law_sort : PF := pfOf 1 m__law_sort
theorem dn__law_sort : denD ⟨N__law_sort, defScope st__law_sort, fun _ => true, gl__law_sort, false, []⟩ (defBody st__law_sort) = some (m__law_sort) := by kernel_rfl
theorem sc__law_sort : FnScope N__law_sort ps__law_sort (defScope st__law_sort) := ⟨rfl, rfl, rfl, by decide +kernel, rfl, by decide +kernel, by decide +kernel⟩
/-! ### _law_like -/
def st__law_like : Stmt := top 38
def N__law_like : List Str := ["one", "other", "sort", "first", "second"]
def ps__law_like : List Str := ["one", "other"]
def gl__law_like (p : PF) : List (Str × Gv) := [("_law_sort", .fn 1 none p__law_sort), ("len", .blt), ("zip", .blt), ("_law_like", .fn 2 none p)]
def m__law_like (p__law_like : Nat → PF) (n : Nat) : M Fl := mBlk [mSet 2 (mCall 1 p__law_sort [mEsc (mSlot 1)]), mIfS (mOr (mBin fNe (mCall 1 p__law_sort [mEsc (mSlot 0)]) (mSlot 2)) (mBin fEq (mSlot 2) (mC (.int 6)))) (mBlk [mRet (mC (.bool false))]) (mBlk []), mIfS (mBin (fIn false) (mSlot 2) (mTup [mEsc (mC (.int 4)), mEsc (mC (.int 5))])) (mBlk [mRet (mAnd (mBin fEq (mPrim fLen [mSlot 0]) (mPrim fLen [mSlot 1])) (mBin fEq (mComp [3, 4] (mWalk fZip [mEsc (mSlot 0), mEsc (mSlot 1)]) (.t [3, 4]) (mNot (mCall 2 (p__law_like n) [mEsc (mSlot 3), mEsc (mSlot 4)])) (mC (.int 1))) (mLst [])))]) (mBlk []), mRet (mBin fEq (mSlot 0) (mSlot 1))]
def p__law_like : Nat → PF := fun n => Nat.rec (fun _ => .bad) (fun _ p => pfOf 5 (m__law_like (fun _ => p) 0)) n
theorem dn__law_like (p : PF) : denD ⟨N__law_like, defScope st__law_like, fun _ => true, gl__law_like p, false, []⟩ (defBody st__law_like) = some (m__law_like (fun _ => p) 0) := by kernel_rfl
theorem sc__law_like : FnScope N__law_like ps__law_like (defScope st__law_like) := ⟨rfl, rfl, rfl, by decide +kernel, rfl, by decide +kernel, by decide +kernel⟩
/-! ### is_whole -/
def st_is_whole : Stmt := top 5
def N_is_whole : List Str := ["value", "low", "high"]
def ps_is_whole : List Str := ["value", "low", "high"]
def gl_is_whole : List (Str × Gv) := [("isinstance", .blt), ("int", .blt), ("bool", .blt)]
def m_is_whole : M Fl := mBlk [mRet (mAnd (mUn (fIsa "int") (mSlot 0)) (mAnd (mNot (mUn (fIsa "bool") (mSlot 0))) (mChain fLe fLe (mSlot 1) (mSlot 0) (mSlot 2))))]
def p_is_whole : PF := pfOf 3 m_is_whole
theorem dn_is_whole : denD ⟨N_is_whole, defScope st_is_whole, fun _ => true, gl_is_whole, false, []⟩ (defBody st_is_whole) = some (m_is_whole) := by kernel_rfl
theorem sc_is_whole : FnScope N_is_whole ps_is_whole (defScope st_is_whole) := ⟨rfl, rfl, rfl, by decide +kernel, rfl, by decide +kernel, by decide +kernel⟩
/-! ### need_whole -/
def st_need_whole : Stmt := top 6
def N_need_whole : List Str := ["value", "low", "high"]
def ps_need_whole : List Str := ["value", "low", "high"]
def gl_need_whole : List (Str × Gv) := [("is_whole", .fn 3 none p_is_whole), ("InvalidNumber", .cls)]
def m_need_whole : M Fl := mBlk [mIfS (mNot (mCall 3 p_is_whole [mEsc (mSlot 0), mEsc (mSlot 1), mEsc (mSlot 2)])) (mBlk [mRaise "InvalidNumber"]) (mBlk [])]
def p_need_whole : PF := pfOf 3 m_need_whole
theorem dn_need_whole : denD ⟨N_need_whole, defScope st_need_whole, fun _ => true, gl_need_whole, false, []⟩ (defBody st_need_whole) = some (m_need_whole) := by kernel_rfl
theorem sc_need_whole : FnScope N_need_whole ps_need_whole (defScope st_need_whole) := ⟨rfl, rfl, rfl, by decide +kernel, rfl, by decide +kernel, by decide +kernel⟩
/-! ### need_rims -/
def st_need_rims : Stmt := top 19
def N_need_rims : List Str := ["value"]
def ps_need_rims : List Str := ["value"]
def gl_need_rims : List (Str × Gv) := [("need_whole", .fn 3 none p_need_whole), ("RIMS", .con (.int (8)))]
def m_need_rims : M Fl := mBlk [mDrop (mCall 3 p_need_whole [mEsc (mSlot 0), mEsc (mC (.int 0)), mEsc (mC (.int 8))])]
def p_need_rims : PF := pfOf 1 m_need_rims
theorem dn_need_rims : denD ⟨N_need_rims, defScope st_need_rims, fun _ => true, gl_need_rims, false, []⟩ (defBody st_need_rims) = some (m_need_rims) := by kernel_rfl
theorem sc_need_rims : FnScope N_need_rims ps_need_rims (defScope st_need_rims) := ⟨rfl, rfl, rfl, by decide +kernel, rfl, by decide +kernel, by decide +kernel⟩
/-! ### is_tuple_of -/
def st_is_tuple_of : Stmt := top 7
def N_is_tuple_of : List Str := ["value", "low", "high"]
def ps_is_tuple_of : List Str := ["value", "low", "high"]
def gl_is_tuple_of : List (Str × Gv) := [("isinstance", .blt), ("tuple", .blt), ("len", .blt)]
def m_is_tuple_of : M Fl := mBlk [mRet (mAnd (mUn (fIsa "tuple") (mSlot 0)) (mChain fLe fLe (mSlot 1) (mPrim fLen [mSlot 0]) (mSlot 2)))]
def p_is_tuple_of : PF := pfOf 3 m_is_tuple_of
theorem dn_is_tuple_of : denD ⟨N_is_tuple_of, defScope st_is_tuple_of, fun _ => true, gl_is_tuple_of, false, []⟩ (defBody st_is_tuple_of) = some (m_is_tuple_of) := by kernel_rfl
theorem sc_is_tuple_of : FnScope N_is_tuple_of ps_is_tuple_of (defScope st_is_tuple_of) := ⟨rfl, rfl, rfl, by decide +kernel, rfl, by decide +kernel, by decide +kernel⟩
/-! ### is_piece_of -/
def st_is_piece_of : Stmt := top 15
def N_is_piece_of : List Str := ["rims", "value"]
def ps_is_piece_of : List Str := ["rims", "value"]
def gl_is_piece_of : List (Str × Gv) := [("is_whole", .fn 3 none p_is_whole), ("KINDS", .con (.tuple [.str ("end" : Str), .str ("join" : Str), .str ("part" : Str), .str ("start" : Str), .str ("swap" : Str)])), ("is_tuple_of", .fn 3 none p_is_tuple_of), ("isinstance", .blt), ("str", .blt)]
def m_is_piece_of : M Fl := mBlk [mIfS (mOr (mNot (mCall 3 p_is_tuple_of [mEsc (mSlot 1), mEsc (mC (.int 2)), mEsc (mC (.int 2))])) (mOr (mNot (mUn (fIsa "str") (mBin fItem (mSlot 1) (mC (.int 0))))) (mBin (fIn true) (mBin fItem (mSlot 1) (mC (.int 0))) (mC (.tuple [.str ("end" : Str), .str ("join" : Str), .str ("part" : Str), .str ("start" : Str), .str ("swap" : Str)]))))) (mBlk [mRet (mC (.bool false))]) (mBlk []), mIfS (mBin fEq (mBin fItem (mSlot 1) (mC (.int 0))) (mC (.str ("start" : Str)))) (mBlk [mRet (mCall 3 p_is_whole [mEsc (mBin fItem (mSlot 1) (mC (.int 1))), mEsc (mC (.int 0)), mEsc (mSlot 0)])]) (mBlk []), mRet (mCall 3 p_is_whole [mEsc (mBin fItem (mSlot 1) (mC (.int 1))), mEsc (mC (.int 0)), mEsc (mIf (mBin (fIn false) (mBin fItem (mSlot 1) (mC (.int 0))) (mTup [mEsc (mC (.str ("join" : Str))), mEsc (mC (.str ("swap" : Str)))])) (mBin fSub (mSlot 0) (mC (.int 2))) (mBin fSub (mSlot 0) (mC (.int 1))))])]
def p_is_piece_of : PF := pfOf 2 m_is_piece_of
theorem dn_is_piece_of : denD ⟨N_is_piece_of, defScope st_is_piece_of, fun _ => true, gl_is_piece_of, false, []⟩ (defBody st_is_piece_of) = some (m_is_piece_of) := by kernel_rfl
theorem sc_is_piece_of : FnScope N_is_piece_of ps_is_piece_of (defScope st_is_piece_of) := ⟨rfl, rfl, rfl, by decide +kernel, rfl, by decide +kernel, by decide +kernel⟩
/-! ### rims_behind -/
def st_rims_behind : Stmt := top 16
def N_rims_behind : List Str := ["rims", "piece"]
def ps_rims_behind : List Str := ["rims", "piece"]
def gl_rims_behind : List (Str × Gv) := []
def m_rims_behind : M Fl := mBlk [mIfS (mBin (fIn false) (mBin fItem (mSlot 1) (mC (.int 0))) (mTup [mEsc (mC (.str ("start" : Str))), mEsc (mC (.str ("part" : Str)))])) (mBlk [mRet (mBin fAdd (mSlot 0) (mC (.int 1)))]) (mBlk []), mRet (mIf (mBin (fIn false) (mBin fItem (mSlot 1) (mC (.int 0))) (mTup [mEsc (mC (.str ("end" : Str))), mEsc (mC (.str ("join" : Str)))])) (mBin fSub (mSlot 0) (mC (.int 1))) (mSlot 0))]
def p_rims_behind : PF := pfOf 2 m_rims_behind
theorem dn_rims_behind : denD ⟨N_rims_behind, defScope st_rims_behind, fun _ => true, gl_rims_behind, false, []⟩ (defBody st_rims_behind) = some (m_rims_behind) := by kernel_rfl
theorem sc_rims_behind : FnScope N_rims_behind ps_rims_behind (defScope st_rims_behind) := ⟨rfl, rfl, rfl, by decide +kernel, rfl, by decide +kernel, by decide +kernel⟩
/-! ### rims_of -/
def st_rims_of : Stmt := top 17
def N_rims_of : List Str := ["rims", "pieces", "found", "piece"]
def ps_rims_of : List Str := ["rims", "pieces"]
def gl_rims_of : List (Str × Gv) := [("WIDE", .con (.int (20))), ("tuple", .blt), ("is_piece_of", .fn 2 none p_is_piece_of), ("rims_behind", .fn 2 none p_rims_behind), ("max", .blt)]
def m_rims_of : M Fl := mBlk [mSet 2 (mLst [mEsc (mSlot 0)]), mFor (mSeq (mSlot 1)) (.n 3) (mBlk [mIfS (mNot (mCall 2 p_is_piece_of [mEsc (mBin fItem (mSlot 2) (mUn fNeg (mC (.int 1)))), mEsc (mSlot 3)])) (mBlk [mRet (mC .none)]) (mBlk []), mApp 2 (mCall 2 p_rims_behind [mEsc (mBin fItem (mSlot 2) (mUn fNeg (mC (.int 1)))), mEsc (mSlot 3)])]), mRet (mIf (mBin fLe (mPrim fMax [mSlot 2]) (mC (.int 20))) (mPrim fTuple [mSlot 2]) (mC .none))]
def p_rims_of : PF := pfOf 4 m_rims_of
theorem dn_rims_of : denD ⟨N_rims_of, defScope st_rims_of, fun _ => true, gl_rims_of, false, []⟩ (defBody st_rims_of) = some (m_rims_of) := by kernel_rfl
theorem sc_rims_of : FnScope N_rims_of ps_rims_of (defScope st_rims_of) := ⟨rfl, rfl, rfl, by decide +kernel, rfl, by decide +kernel, by decide +kernel⟩
/-! ### is_word_from -/
def st_is_word_from : Stmt := top 18
def N_is_word_from : List Str := ["rims", "value", "along"]
def ps_is_word_from : List Str := ["rims", "value"]
def gl_is_word_from : List (Str × Gv) := [("rims_of", .fn 2 none p_rims_of), ("is_tuple_of", .fn 3 none p_is_tuple_of), ("PIECES", .con (.int (400))), ("RIMS", .con (.int (8)))]
def m_is_word_from : M Fl := mBlk [mIfS (mNot (mCall 3 p_is_tuple_of [mEsc (mSlot 1), mEsc (mC (.int 0)), mEsc (mC (.int 400))])) (mBlk [mRet (mC (.bool false))]) (mBlk []), mSet 2 (mCall 2 p_rims_of [mEsc (mSlot 0), mEsc (mSlot 1)]), mRet (mAnd (mBin (fIs true) (mSlot 2) (mC .none)) (mBin fLe (mBin fItem (mSlot 2) (mUn fNeg (mC (.int 1)))) (mC (.int 8))))]
def p_is_word_from : PF := pfOf 3 m_is_word_from
theorem dn_is_word_from : denD ⟨N_is_word_from, defScope st_is_word_from, fun _ => true, gl_is_word_from, false, []⟩ (defBody st_is_word_from) = some (m_is_word_from) := by kernel_rfl
theorem sc_is_word_from : FnScope N_is_word_from ps_is_word_from (defScope st_is_word_from) := ⟨rfl, rfl, rfl, by decide +kernel, rfl, by decide +kernel, by decide +kernel⟩
/-! ### need_word -/
def st_need_word : Stmt := top 20
def N_need_word : List Str := ["rims", "value"]
def ps_need_word : List Str := ["rims", "value"]
def gl_need_word : List (Str × Gv) := [("is_word_from", .fn 2 none p_is_word_from), ("InvalidWord", .cls)]
def m_need_word : M Fl := mBlk [mIfS (mNot (mCall 2 p_is_word_from [mEsc (mSlot 0), mEsc (mSlot 1)])) (mBlk [mRaise "InvalidWord"]) (mBlk [])]
def p_need_word : PF := pfOf 2 m_need_word
theorem dn_need_word : denD ⟨N_need_word, defScope st_need_word, fun _ => true, gl_need_word, false, []⟩ (defBody st_need_word) = some (m_need_word) := by kernel_rfl
theorem sc_need_word : FnScope N_need_word ps_need_word (defScope st_need_word) := ⟨rfl, rfl, rfl, by decide +kernel, rfl, by decide +kernel, by decide +kernel⟩
/-! ### plain_in -/
def st_plain_in : Stmt := top 10
def N_plain_in : List Str := ["many", "own"]
def ps_plain_in : List Str := ["many"]
def gl_plain_in : List (Str × Gv) := [("tuple", .blt), ("range", .blt)]
def m_plain_in : M Fl := mBlk [mRet (mTup [mEsc (mSlot 0), mEsc (mSlot 0), mEsc (mPrim fTuple [mComp [1] (mWalk fRange1 [mEsc (mSlot 0)]) (.n 1) (mC (.bool true)) (mTup [mEsc (mTup [mEsc (mSlot 1)]), mEsc (mTup [mEsc (mSlot 1)]), mEsc (mC (.int 0))])]), mEsc (mTup [])])]
def p_plain_in : PF := pfOf 2 m_plain_in
theorem dn_plain_in : denD ⟨N_plain_in, defScope st_plain_in, fun _ => true, gl_plain_in, false, []⟩ (defBody st_plain_in) = some (m_plain_in) := by kernel_rfl
theorem sc_plain_in : FnScope N_plain_in ps_plain_in (defScope st_plain_in) := ⟨rfl, rfl, rfl, by decide +kernel, rfl, by decide +kernel, by decide +kernel⟩
/-! ### shifted -/
def st_shifted : Stmt := top 21
def N_shifted : List Str := ["lot", "begin", "by", "own"]
def ps_shifted : List Str := ["lot", "begin", "by"]
def gl_shifted : List (Str × Gv) := [("tuple", .blt)]
def m_shifted : M Fl := mBlk [mRet (mPrim fTuple [mComp [3] (mSeq (mSlot 0)) (.n 3) (mC (.bool true)) (mIf (mBin fGe (mSlot 3) (mSlot 1)) (mBin fAdd (mSlot 3) (mSlot 2)) (mSlot 3))])]
def p_shifted : PF := pfOf 4 m_shifted
theorem dn_shifted : denD ⟨N_shifted, defScope st_shifted, fun _ => true, gl_shifted, false, []⟩ (defBody st_shifted) = some (m_shifted) := by kernel_rfl
theorem sc_shifted : FnScope N_shifted ps_shifted (defScope st_shifted) := ⟨rfl, rfl, rfl, by decide +kernel, rfl, by decide +kernel, by decide +kernel⟩
/-! ### exchanged -/
def st_exchanged : Stmt := top 22
def N_exchanged : List Str := ["lot", "at", "own"]
def ps_exchanged : List Str := ["lot", "at"]
def gl_exchanged : List (Str × Gv) := [("tuple", .blt), ("sorted", .blt)]
def m_exchanged : M Fl := mBlk [mRet (mPrim fTuple [mPrim fSorted [mComp [2] (mSeq (mSlot 0)) (.n 2) (mC (.bool true)) (mIf (mBin fEq (mSlot 2) (mSlot 1)) (mBin fAdd (mSlot 1) (mC (.int 1))) (mIf (mBin fEq (mSlot 2) (mBin fAdd (mSlot 1) (mC (.int 1)))) (mSlot 1) (mSlot 2)))]])]
def p_exchanged : PF := pfOf 3 m_exchanged
theorem dn_exchanged : denD ⟨N_exchanged, defScope st_exchanged, fun _ => true, gl_exchanged, false, []⟩ (defBody st_exchanged) = some (m_exchanged) := by kernel_rfl
theorem sc_exchanged : FnScope N_exchanged ps_exchanged (defScope st_exchanged) := ⟨rfl, rfl, rfl, by decide +kernel, rfl, by decide +kernel, by decide +kernel⟩
/-! ### without -/
def st_without : Stmt := top 24
def N_without : List Str := ["lot", "at", "own"]
def ps_without : List Str := ["lot", "at"]
def gl_without : List (Str × Gv) := [("shifted", .fn 3 none p_shifted), ("tuple", .blt)]
def m_without : M Fl := mBlk [mRet (mCall 3 p_shifted [mEsc (mPrim fTuple [mComp [2] (mSeq (mSlot 0)) (.n 2) (mBin fNe (mSlot 2) (mSlot 1)) (mSlot 2)]), mEsc (mSlot 1), mEsc (mUn fNeg (mC (.int 1)))])]
def p_without : PF := pfOf 3 m_without
theorem dn_without : denD ⟨N_without, defScope st_without, fun _ => true, gl_without, false, []⟩ (defBody st_without) = some (m_without) := by kernel_rfl
theorem sc_without : FnScope N_without ps_without (defScope st_without) := ⟨rfl, rfl, rfl, by decide +kernel, rfl, by decide +kernel, by decide +kernel⟩
/-! ### ended -/
def st_ended : Stmt := top 25
def N_ended : List Str := ["parts", "shut", "at", "found", "more", "ins", "outs", "holes", "left"]
def ps_ended : List Str := ["parts", "shut", "at"]
def gl_ended : List (Str × Gv) := [("list", .blt), ("without", .fn 2 none p_without)]
def m_ended : M Fl := mBlk [mPar [3, 4] [mEsr (mLst []), mEsr (mPrim fList [mSlot 1])], mFor (mSeq (mSlot 0)) (.t [5, 6, 7]) (mBlk [mSet 8 (mCall 2 p_without [mEsc (mSlot 6), mEsc (mSlot 2)]), mIfS (mAnd (mBin fEq (mSlot 5) (mTup [])) (mBin fEq (mSlot 8) (mTup []))) (mBlk [mApp 4 (mSlot 7)]) (mBlk [mApp 3 (mTup [mEsc (mSlot 5), mEsc (mSlot 8), mEsc (mSlot 7)])])]), mRet (mTup [mEsc (mSlot 3), mEsc (mSlot 4)])]
def p_ended : PF := pfOf 9 m_ended
theorem dn_ended : denD ⟨N_ended, defScope st_ended, fun _ => true, gl_ended, false, []⟩ (defBody st_ended) = some (m_ended) := by kernel_rfl
theorem sc_ended : FnScope N_ended ps_ended (defScope st_ended) := ⟨rfl, rfl, rfl, by decide +kernel, rfl, by decide +kernel, by decide +kernel⟩
/-! ### grown -/
def st_grown : Stmt := top 26
def N_grown : List Str := ["parts", "at", "lot", "part", "ins", "own", "outs", "holes", "found"]
def ps_grown : List Str := ["parts", "at"]
def gl_grown : List (Str × Gv) := [("tuple", .blt), ("sorted", .blt), ("sum", .blt), ("without", .fn 2 none p_without), ("len", .blt)]
def m_grown : M Fl := mBlk [mSet 2 (mComp [3] (mSeq (mSlot 0)) (.n 3) (mOr (mBin (fIn false) (mSlot 1) (mBin fItem (mSlot 3) (mC (.int 1)))) (mBin (fIn false) (mBin fAdd (mSlot 1) (mC (.int 1))) (mBin fItem (mSlot 3) (mC (.int 1))))) (mSlot 3)), mSet 4 (mPrim fTuple [mPrim fSorted [mComp2 [3, 5] [5] (mSeq (mSlot 2)) (.n 3) (mC (.bool true)) (mSeq (mBin fItem (mSlot 3) (mC (.int 0)))) (.n 5) (mC (.bool true)) (mSlot 5)]]), mSet 6 (mPrim fTuple [mPrim fSorted [mComp2 [3, 5] [5] (mSeq (mSlot 2)) (.n 3) (mC (.bool true)) (mSeq (mBin fItem (mSlot 3) (mC (.int 1)))) (.n 5) (mC (.bool true)) (mSlot 5)]]), mSet 7 (mBin fAdd (mPrim fSum [mComp [3] (mSeq (mSlot 2)) (.n 3) (mC (.bool true)) (mBin fItem (mSlot 3) (mC (.int 2)))]) (mIf (mBin fEq (mPrim fLen [mSlot 2]) (mC (.int 1))) (mC (.int 1)) (mC (.int 0)))), mSet 8 (mBin fAdd (mComp [3] (mSeq (mSlot 0)) (.n 3) (mBin (fIn true) (mSlot 3) (mSlot 2)) (mSlot 3)) (mLst [mEsc (mTup [mEsc (mSlot 4), mEsc (mSlot 6), mEsc (mSlot 7)])])), mRet (mComp [4, 6, 7] (mSeq (mSlot 8)) (.t [4, 6, 7]) (mC (.bool true)) (mTup [mEsc (mSlot 4), mEsc (mCall 2 p_without [mEsc (mSlot 6), mEsc (mBin fAdd (mSlot 1) (mC (.int 1)))]), mEsc (mSlot 7)]))]
def p_grown : PF := pfOf 9 m_grown
theorem dn_grown : denD ⟨N_grown, defScope st_grown, fun _ => true, gl_grown, false, []⟩ (defBody st_grown) = some (m_grown) := by kernel_rfl
theorem sc_grown : FnScope N_grown ps_grown (defScope st_grown) := ⟨rfl, rfl, rfl, by decide +kernel, rfl, by decide +kernel, by decide +kernel⟩
/-! ### parted -/
def st_parted : Stmt := top 23
def N_parted : List Str := ["lot", "at", "found"]
def ps_parted : List Str := ["lot", "at"]
def gl_parted : List (Str × Gv) := [("shifted", .fn 3 none p_shifted), ("tuple", .blt), ("sorted", .blt)]
def m_parted : M Fl := mBlk [mSet 2 (mCall 3 p_shifted [mEsc (mSlot 0), mEsc (mBin fAdd (mSlot 1) (mC (.int 1))), mEsc (mC (.int 1))]), mRet (mIf (mBin (fIn false) (mSlot 1) (mSlot 0)) (mPrim fTuple [mPrim fSorted [mBin fAdd (mSlot 2) (mTup [mEsc (mBin fAdd (mSlot 1) (mC (.int 1)))])]]) (mSlot 2))]
def p_parted : PF := pfOf 3 m_parted
theorem dn_parted : denD ⟨N_parted, defScope st_parted, fun _ => true, gl_parted, false, []⟩ (defBody st_parted) = some (m_parted) := by kernel_rfl
theorem sc_parted : FnScope N_parted ps_parted (defScope st_parted) := ⟨rfl, rfl, rfl, by decide +kernel, rfl, by decide +kernel, by decide +kernel⟩
/-! ### led_by -/
def st_led_by : Stmt := top 27
def N_led_by : List Str := ["surface", "piece", "rims_in", "rims_out", "parts", "shut", "kind", "at", "found", "ins", "outs", "holes"]
def ps_led_by : List Str := ["surface", "piece"]
def gl_led_by : List (Str × Gv) := [("rims_behind", .fn 2 none p_rims_behind), ("tuple", .blt), ("sorted", .blt), ("shifted", .fn 3 none p_shifted), ("exchanged", .fn 2 none p_exchanged), ("ended", .fn 3 none p_ended), ("grown", .fn 2 none p_grown), ("parted", .fn 2 none p_parted)]
def m_led_by : M Fl := mBlk [mAsg (.t [2, 3, 4, 5]) (mSlot 0), mAsg (.t [6, 7]) (mSlot 1), mIfS (mBin fEq (mSlot 6) (mC (.str ("start" : Str)))) (mBlk [mSet 8 (mBin fAdd (mComp [9, 10, 11] (mSeq (mSlot 4)) (.t [9, 10, 11]) (mC (.bool true)) (mTup [mEsc (mSlot 9), mEsc (mCall 3 p_shifted [mEsc (mSlot 10), mEsc (mSlot 7), mEsc (mC (.int 1))]), mEsc (mSlot 11)])) (mLst [mEsc (mTup [mEsc (mTup []), mEsc (mTup [mEsc (mSlot 7)]), mEsc (mC (.int 0))])]))]) (mBlk [mIfS (mBin fEq (mSlot 6) (mC (.str ("swap" : Str)))) (mBlk [mSet 8 (mComp [9, 10, 11] (mSeq (mSlot 4)) (.t [9, 10, 11]) (mC (.bool true)) (mTup [mEsc (mSlot 9), mEsc (mCall 2 p_exchanged [mEsc (mSlot 10), mEsc (mSlot 7)]), mEsc (mSlot 11)]))]) (mBlk [mIfS (mBin fEq (mSlot 6) (mC (.str ("part" : Str)))) (mBlk [mSet 8 (mComp [9, 10, 11] (mSeq (mSlot 4)) (.t [9, 10, 11]) (mC (.bool true)) (mTup [mEsc (mSlot 9), mEsc (mCall 2 p_parted [mEsc (mSlot 10), mEsc (mSlot 7)]), mEsc (mSlot 11)]))]) (mBlk [mIfS (mBin fEq (mSlot 6) (mC (.str ("end" : Str)))) (mBlk [mAsg (.t [8, 5]) (mCall 3 p_ended [mEsc (mSlot 4), mEsc (mSlot 5), mEsc (mSlot 7)])]) (mBlk [mSet 8 (mCall 2 p_grown [mEsc (mSlot 4), mEsc (mSlot 7)])])])])]), mRet (mTup [mEsc (mSlot 2), mEsc (mCall 2 p_rims_behind [mEsc (mSlot 3), mEsc (mSlot 1)]), mEsc (mPrim fTuple [mPrim fSorted [mSlot 8]]), mEsc (mPrim fTuple [mPrim fSorted [mSlot 5]])])]
def p_led_by : PF := pfOf 12 m_led_by
theorem dn_led_by : denD ⟨N_led_by, defScope st_led_by, fun _ => true, gl_led_by, false, []⟩ (defBody st_led_by) = some (m_led_by) := by kernel_rfl
theorem sc_led_by : FnScope N_led_by ps_led_by (defScope st_led_by) := ⟨rfl, rfl, rfl, by decide +kernel, rfl, by decide +kernel, by decide +kernel⟩
/-! ### surface_by -/
def st_surface_by : Stmt := top 28
def N_surface_by : List Str := ["rims", "pieces", "found", "piece"]
def ps_surface_by : List Str := ["rims", "pieces"]
def gl_surface_by : List (Str × Gv) := [("plain_in", .fn 1 none p_plain_in), ("led_by", .fn 2 none p_led_by)]
def m_surface_by : M Fl := mBlk [mSet 2 (mCall 1 p_plain_in [mEsc (mSlot 0)]), mFor (mSeq (mSlot 1)) (.n 3) (mBlk [mSet 2 (mCall 2 p_led_by [mEsc (mSlot 2), mEsc (mSlot 3)])]), mRet (mSlot 2)]
def p_surface_by : PF := pfOf 4 m_surface_by
theorem dn_surface_by : denD ⟨N_surface_by, defScope st_surface_by, fun _ => true, gl_surface_by, false, []⟩ (defBody st_surface_by) = some (m_surface_by) := by kernel_rfl
theorem sc_surface_by : FnScope N_surface_by ps_surface_by (defScope st_surface_by) := ⟨rfl, rfl, rfl, by decide +kernel, rfl, by decide +kernel, by decide +kernel⟩
/-! ### surface_of_word -/
def st_surface_of_word : Stmt := top 31
def N_surface_of_word : List Str := ["rims", "word"]
def ps_surface_of_word : List Str := ["rims", "word"]
def gl_surface_of_word : List (Str × Gv) := [("need_rims", .fn 1 none p_need_rims), ("need_word", .fn 2 none p_need_word), ("surface_by", .fn 2 none p_surface_by)]
def m_surface_of_word : M Fl := mBlk [mDrop (mCall 1 p_need_rims [mEsc (mSlot 0)]), mDrop (mCall 2 p_need_word [mEsc (mSlot 0), mEsc (mSlot 1)]), mRet (mCall 2 p_surface_by [mEsc (mSlot 0), mEsc (mSlot 1)])]
def p_surface_of_word : PF := pfOf 2 m_surface_of_word
theorem dn_surface_of_word : denD ⟨N_surface_of_word, defScope st_surface_of_word, fun _ => true, gl_surface_of_word, false, []⟩ (defBody st_surface_of_word) = some (m_surface_of_word) := by kernel_rfl
theorem sc_surface_of_word : FnScope N_surface_of_word ps_surface_of_word (defScope st_surface_of_word) := ⟨rfl, rfl, rfl, by decide +kernel, rfl, by decide +kernel, by decide +kernel⟩
/-! ### is_piece_word -/
def st_is_piece_word : Stmt := top 29
def N_is_piece_word : List Str := ["rims", "value"]
def ps_is_piece_word : List Str := ["rims", "value"]
def gl_is_piece_word : List (Str × Gv) := [("need_rims", .fn 1 none p_need_rims), ("is_word_from", .fn 2 none p_is_word_from)]
def m_is_piece_word : M Fl := mBlk [mDrop (mCall 1 p_need_rims [mEsc (mSlot 0)]), mRet (mCall 2 p_is_word_from [mEsc (mSlot 0), mEsc (mSlot 1)])]
def p_is_piece_word : PF := pfOf 2 m_is_piece_word
theorem dn_is_piece_word : denD ⟨N_is_piece_word, defScope st_is_piece_word, fun _ => true, gl_is_piece_word, false, []⟩ (defBody st_is_piece_word) = some (m_is_piece_word) := by kernel_rfl
theorem sc_is_piece_word : FnScope N_is_piece_word ps_is_piece_word (defScope st_is_piece_word) := ⟨rfl, rfl, rfl, by decide +kernel, rfl, by decide +kernel, by decide +kernel⟩
/-! ### rims_along -/
def st_rims_along : Stmt := top 30
def N_rims_along : List Str := ["rims", "word"]
def ps_rims_along : List Str := ["rims", "word"]
def gl_rims_along : List (Str × Gv) := [("need_rims", .fn 1 none p_need_rims), ("need_word", .fn 2 none p_need_word), ("rims_of", .fn 2 none p_rims_of)]
def m_rims_along : M Fl := mBlk [mDrop (mCall 1 p_need_rims [mEsc (mSlot 0)]), mDrop (mCall 2 p_need_word [mEsc (mSlot 0), mEsc (mSlot 1)]), mRet (mCall 2 p_rims_of [mEsc (mSlot 0), mEsc (mSlot 1)])]
def p_rims_along : PF := pfOf 2 m_rims_along
theorem dn_rims_along : denD ⟨N_rims_along, defScope st_rims_along, fun _ => true, gl_rims_along, false, []⟩ (defBody st_rims_along) = some (m_rims_along) := by kernel_rfl
theorem sc_rims_along : FnScope N_rims_along ps_rims_along (defScope st_rims_along) := ⟨rfl, rfl, rfl, by decide +kernel, rfl, by decide +kernel, by decide +kernel⟩
/-! ### are_alike_words -/
def st_are_alike_words : Stmt := top 32
def N_are_alike_words : List Str := ["rims", "one", "other"]
def ps_are_alike_words : List Str := ["rims", "one", "other"]
def gl_are_alike_words : List (Str × Gv) := [("need_rims", .fn 1 none p_need_rims), ("need_word", .fn 2 none p_need_word), ("surface_by", .fn 2 none p_surface_by)]
def m_are_alike_words : M Fl := mBlk [mDrop (mCall 1 p_need_rims [mEsc (mSlot 0)]), mDrop (mCall 2 p_need_word [mEsc (mSlot 0), mEsc (mSlot 1)]), mDrop (mCall 2 p_need_word [mEsc (mSlot 0), mEsc (mSlot 2)]), mRet (mBin fEq (mCall 2 p_surface_by [mEsc (mSlot 0), mEsc (mSlot 1)]) (mCall 2 p_surface_by [mEsc (mSlot 0), mEsc (mSlot 2)]))]
def p_are_alike_words : PF := pfOf 3 m_are_alike_words
theorem dn_are_alike_words : denD ⟨N_are_alike_words, defScope st_are_alike_words, fun _ => true, gl_are_alike_words, false, []⟩ (defBody st_are_alike_words) = some (m_are_alike_words) := by kernel_rfl
theorem sc_are_alike_words : FnScope N_are_alike_words ps_are_alike_words (defScope st_are_alike_words) := ⟨rfl, rfl, rfl, by decide +kernel, rfl, by decide +kernel, by decide +kernel⟩
/-! ### _law_limits_right -/
def st__law_limits_right : Stmt := top 45
def N__law_limits_right : List Str := ["cup", "v", "h", "told", "due", "great", "odds", "odd", "words", "rims", "name"]
def ps__law_limits_right : List Str := ["cup"]
def gl__law_limits_right : List (Str × Gv) := [("_law_like", .fn 2 none (p__law_like 20)), ("surface_of_word", .fn 2 none p_surface_of_word), ("is_piece_word", .fn 2 none p_is_piece_word), ("rims_along", .fn 2 none p_rims_along), ("are_alike_words", .fn 3 none p_are_alike_words), ("_law_error", .tel ("none" : Str) ht__law_error)]
def m__law_limits_right : M Fl := mBlk [mPar [1, 2] [mEsr (mTup [mEsc (mTup [mEsc (mC (.str ("join" : Str))), mEsc (mC (.int 0))]), mEsc (mTup [mEsc (mC (.str ("part" : Str))), mEsc (mC (.int 0))])]), mEsr (mTup [mEsc (mTup [mEsc (mC (.str ("part" : Str))), mEsc (mC (.int 0))]), mEsc (mTup [mEsc (mC (.str ("part" : Str))), mEsc (mC (.int 0))]), mEsc (mTup [mEsc (mC (.str ("join" : Str))), mEsc (mC (.int 1))])])], mIfS (mNot (mCall 2 (p__law_like 20) [mEsc (mLst [mEsc (mCall 2 p_surface_of_word [mEsc (mC (.int 2)), mEsc (mTup [mEsc (mTup [mEsc (mC (.str ("swap" : Str))), mEsc (mC (.int 0))])])]), mEsc (mCall 2 p_surface_of_word [mEsc (mC (.int 1)), mEsc (mSlot 2)])]), mEsc (mLst [mEsc (mTup [mEsc (mC (.int 2)), mEsc (mC (.int 2)), mEsc (mTup [mEsc (mTup [mEsc (mTup [mEsc (mC (.int 0))]), mEsc (mTup [mEsc (mC (.int 1))]), mEsc (mC (.int 0))]), mEsc (mTup [mEsc (mTup [mEsc (mC (.int 1))]), mEsc (mTup [mEsc (mC (.int 0))]), mEsc (mC (.int 0))])]), mEsc (mTup [])]), mEsc (mTup [mEsc (mC (.int 1)), mEsc (mC (.int 2)), mEsc (mTup [mEsc (mTup [mEsc (mTup [mEsc (mC (.int 0))]), mEsc (mTup [mEsc (mC (.int 0)), mEsc (mC (.int 1))]), mEsc (mC (.int 1))])]), mEsc (mTup [])])])])) (mBlk [mRet (mC (.bool false))]) (mBlk []), mSet 3 (mLst [mEsc (mCall 2 p_surface_of_word [mEsc (mC (.int 2)), mEsc (mSlot 1)]), mEsc (mCall 2 p_surface_of_word [mEsc (mC (.int 1)), mEsc (mTup [mEsc (mTup [mEsc (mC (.str ("part" : Str))), mEsc (mC (.int 0))]), mEsc (mTup [mEsc (mC (.str ("join" : Str))), mEsc (mC (.int 0))])])]), mEsc (mCall 2 p_surface_of_word [mEsc (mC (.int 0)), mEsc (mTup [mEsc (mTup [mEsc (mC (.str ("start" : Str))), mEsc (mC (.int 0))]), mEsc (mTup [mEsc (mC (.str ("end" : Str))), mEsc (mC (.int 0))])])]), mEsc (mCall 2 p_surface_of_word [mEsc (mC (.int 0)), mEsc (mTup [])])]), mSet 4 (mLst [mEsc (mTup [mEsc (mC (.int 2)), mEsc (mC (.int 2)), mEsc (mTup [mEsc (mTup [mEsc (mTup [mEsc (mC (.int 0)), mEsc (mC (.int 1))]), mEsc (mTup [mEsc (mC (.int 0)), mEsc (mC (.int 1))]), mEsc (mC (.int 0))])]), mEsc (mTup [])]), mEsc (mTup [mEsc (mC (.int 1)), mEsc (mC (.int 1)), mEsc (mTup [mEsc (mTup [mEsc (mTup [mEsc (mC (.int 0))]), mEsc (mTup [mEsc (mC (.int 0))]), mEsc (mC (.int 1))])]), mEsc (mTup [])]), mEsc (mTup [mEsc (mC (.int 0)), mEsc (mC (.int 0)), mEsc (mTup []), mEsc (mTup [mEsc (mC (.int 0))])]), mEsc (mTup [mEsc (mC (.int 0)), mEsc (mC (.int 0)), mEsc (mTup []), mEsc (mTup [])])]), mSet 3 (mBin fAdd (mSlot 3) (mLst [mEsc (mCall 2 p_rims_along [mEsc (mC (.int 2)), mEsc (mSlot 1)]), mEsc (mCall 2 p_rims_along [mEsc (mC (.int 1)), mEsc (mSlot 2)]), mEsc (mCall 2 p_rims_along [mEsc (mC (.int 8)), mEsc (mTup [])]), mEsc (mCall 2 p_surface_of_word [mEsc (mC (.int 3)), mEsc (mTup [mEsc (mTup [mEsc (mC (.str ("end" : Str))), mEsc (mC (.int 1))]), mEsc (mTup [mEsc (mC (.str ("swap" : Str))), mEsc (mC (.int 0))]), mEsc (mTup [mEsc (mC (.str ("start" : Str))), mEsc (mC (.int 1))])])])])), mSet 4 (mBin fAdd (mSlot 4) (mLst [mEsc (mTup [mEsc (mC (.int 2)), mEsc (mC (.int 1)), mEsc (mC (.int 2))]), mEsc (mTup [mEsc (mC (.int 1)), mEsc (mC (.int 2)), mEsc (mC (.int 3)), mEsc (mC (.int 2))]), mEsc (mTup [mEsc (mC (.int 8))]), mEsc (mTup [mEsc (mC (.int 3)), mEsc (mC (.int 3)), mEsc (mTup [mEsc (mTup [mEsc (mTup []), mEsc (mTup [mEsc (mC (.int 1))]), mEsc (mC (.int 0))]), mEsc (mTup [mEsc (mTup [mEsc (mC (.int 0))]), mEsc (mTup [mEsc (mC (.int 2))]), mEsc (mC (.int 0))]), mEsc (mTup [mEsc (mTup [mEsc (mC (.int 1))]), mEsc (mTup []), mEsc (mC (.int 0))]), mEsc (mTup [mEsc (mTup [mEsc (mC (.int 2))]), mEsc (mTup [mEsc (mC (.int 0))]), mEsc (mC (.int 0))])]), mEsc (mTup [])])])), mSet 3 (mBin fAdd (mSlot 3) (mLst [mEsc (mCall 3 p_are_alike_words [mEsc (mC (.int 1)), mEsc (mSlot 2), mEsc (mTup [mEsc (mTup [mEsc (mC (.str ("part" : Str))), mEsc (mC (.int 0))]), mEsc (mTup [mEsc (mC (.str ("join" : Str))), mEsc (mC (.int 0))]), mEsc (mTup [mEsc (mC (.str ("part" : Str))), mEsc (mC (.int 0))])])]), mEsc (mCall 3 p_are_alike_words [mEsc (mC (.int 2)), mEsc (mSlot 1), mEsc (mTup [])]), mEsc (mCall 3 p_are_alike_words [mEsc (mC (.int 0)), mEsc (mTup []), mEsc (mTup [])]), mEsc (mCall 3 p_are_alike_words [mEsc (mC (.int 2)), mEsc (mBin fMul (mTup [mEsc (mTup [mEsc (mC (.str ("swap" : Str))), mEsc (mC (.int 0))])]) (mC (.int 2))), mEsc (mTup [])])])), mIfS (mNot (mCall 2 (p__law_like 20) [mEsc (mSlot 3), mEsc (mBin fAdd (mSlot 4) (mLst [mEsc (mC (.bool true)), mEsc (mC (.bool false)), mEsc (mC (.bool true)), mEsc (mC (.bool true))]))])) (mBlk [mRet (mC (.bool false))]) (mBlk []), mSet 5 (mBin fAdd (mBin fMul (mTup [mEsc (mTup [mEsc (mC (.str ("start" : Str))), mEsc (mC (.int 8))])]) (mC (.int 12))) (mBin fMul (mTup [mEsc (mTup [mEsc (mC (.str ("end" : Str))), mEsc (mC (.int 8))])]) (mC (.int 12)))), mSet 3 (mLst [mEsc (mCall 2 p_is_piece_word [mEsc (mC (.int 8)), mEsc (mSlot 5)]), mEsc (mBin fItem (mCall 2 p_surface_of_word [mEsc (mC (.int 8)), mEsc (mSlot 5)]) (mC (.int 3))), mEsc (mCall 2 p_is_piece_word [mEsc (mC (.int 8)), mEsc (mBin fAdd (mBin fAdd (mTup [mEsc (mTup [mEsc (mC (.str ("start" : Str))), mEsc (mC (.int 0))])]) (mSlot 5)) (mTup [mEsc (mTup [mEsc (mC (.str ("end" : Str))), mEsc (mC (.int 0))])]))]), mEsc (mCall 2 p_is_piece_word [mEsc (mC (.int 2)), mEsc (mBin fMul (mTup [mEsc (mTup [mEsc (mC (.str ("swap" : Str))), mEsc (mC (.int 0))])]) (mC (.int 400)))])]), mSet 3 (mBin fAdd (mSlot 3) (mLst [mEsc (mCall 2 p_is_piece_word [mEsc (mC (.int 2)), mEsc (mBin fMul (mTup [mEsc (mTup [mEsc (mC (.str ("swap" : Str))), mEsc (mC (.int 0))])]) (mC (.int 401)))]), mEsc (mCall 2 p_is_piece_word [mEsc (mC (.int 1)), mEsc (mBin fMul (mTup [mEsc (mTup [mEsc (mC (.str ("part" : Str))), mEsc (mC (.int 0))])]) (mC (.int 7)))]), mEsc (mCall 2 p_is_piece_word [mEsc (mC (.int 1)), mEsc (mBin fMul (mTup [mEsc (mTup [mEsc (mC (.str ("part" : Str))), mEsc (mC (.int 0))])]) (mC (.int 8)))]), mEsc (mCall 2 p_is_piece_word [mEsc (mC (.int 0)), mEsc (mTup [])])])), mIfS (mNot (mCall 2 (p__law_like 20) [mEsc (mSlot 3), mEsc (mLst [mEsc (mC (.bool true)), mEsc (mBin fMul (mTup [mEsc (mC (.int 0))]) (mC (.int 12))), mEsc (mC (.bool false)), mEsc (mC (.bool true)), mEsc (mC (.bool false)), mEsc (mC (.bool true)), mEsc (mC (.bool false)), mEsc (mC (.bool true))])])) (mBlk [mRet (mC (.bool false))]) (mBlk []), mSet 6 (mLst [mEsc (mC .none), mEsc (mLst []), mEsc (mLst [mEsc (mTup [mEsc (mC (.str ("swap" : Str))), mEsc (mC (.int 0))])]), mEsc (mTup [mEsc (mLst [mEsc (mC (.str ("swap" : Str))), mEsc (mC (.int 0))])]), mEsc (mTup [mEsc (mTup [mEsc (mC (.str ("swap" : Str)))])]), mEsc (mTup [mEsc (mTup [mEsc (mC (.str ("swap" : Str))), mEsc (mC (.int 0)), mEsc (mC (.int 0))])]), mEsc (mTup [mEsc (mTup [mEsc (mC (.str ("swap" : Str))), mEsc (mC (.int 1))])]), mEsc (mTup [mEsc (mTup [mEsc (mC (.str ("swap" : Str))), mEsc (mUn fNeg (mC (.int 1)))])]), mEsc (mTup [mEsc (mTup [mEsc (mC (.str ("swap" : Str))), mEsc (mC (.bool true))])]), mEsc (mTup [mEsc (mTup [mEsc (mC (.str ("swap" : Str))), mEsc (mC (.bool false))])])]), mSet 6 (mBin fAdd (mSlot 6) (mLst [mEsc (mTup [mEsc (mTup [mEsc (mC (.str ("turn" : Str))), mEsc (mC (.int 0))])]), mEsc (mTup [mEsc (mTup [mEsc (mC (.int 0)), mEsc (mC (.str ("swap" : Str)))])]), mEsc (mTup [mEsc (mTup [mEsc (mC (.str ("join" : Str))), mEsc (mC (.int 1))])]), mEsc (mTup [mEsc (mTup [mEsc (mC (.str ("start" : Str))), mEsc (mC (.int 3))])]), mEsc (mTup [mEsc (mTup [mEsc (mC (.str ("end" : Str))), mEsc (mC (.int 2))])]), mEsc (mTup [mEsc (mTup [mEsc (mC (.str ("part" : Str))), mEsc (mC (.int 2))])]), mEsc (mTup [mEsc (mC (.str ("swap" : Str))), mEsc (mC (.int 0))]), mEsc (mC (.str ("swap" : Str))), mEsc (mTup [mEsc (mC .none)]), mEsc (mTup [mEsc (mTup [mEsc (mC (.str ("join" : Str))), mEsc (mC (.int 0))]), mEsc (mTup [mEsc (mC (.str ("join" : Str))), mEsc (mC (.int 0))])])])), mIfS (mNot (mCall 2 (p__law_like 20) [mEsc (mComp [7] (mSeq (mSlot 6)) (.n 7) (mC (.bool true)) (mCall 2 p_is_piece_word [mEsc (mC (.int 2)), mEsc (mSlot 7)])), mEsc (mBin fMul (mLst [mEsc (mC (.bool false))]) (mC (.int 20)))])) (mBlk [mRet (mC (.bool false))]) (mBlk []), mSet 8 (mLst []), mFor (mSeq (mTup [mEsc (mC .none), mEsc (mUn fNeg (mC (.int 1))), mEsc (mC (.int 9)), mEsc (mC (.bool true)), mEsc (mC (.str ("2" : Str)))])) (.n 9) (mBlk [mForF 10 ["is_piece_word", "rims_along", "surface_of_word"] (mBlk [mSet 8 (mBin fAdd (mSlot 8) (mLst [mEsc (mTel ("none" : Str) ht__law_error (mCallV (tabF gl__law_limits_right) 10 [mEsc (mSlot 9), mEsc (mC .none)]))]))]), mSet 8 (mBin fAdd (mSlot 8) (mLst [mEsc (mTel ("none" : Str) ht__law_error (mCall 3 p_are_alike_words [mEsc (mSlot 9), mEsc (mC .none), mEsc (mC .none)]))]))]), mFor (mSeq (mSlot 6)) (.n 7) (mBlk [mForF 10 ["rims_along", "surface_of_word"] (mBlk [mSet 8 (mBin fAdd (mSlot 8) (mLst [mEsc (mTel ("none" : Str) ht__law_error (mCallV (tabF gl__law_limits_right) 10 [mEsc (mC (.int 2)), mEsc (mSlot 7)]))]))]), mSet 8 (mBin fAdd (mSlot 8) (mLst [mEsc (mTel ("none" : Str) ht__law_error (mCall 3 p_are_alike_words [mEsc (mC (.int 2)), mEsc (mSlot 7), mEsc (mC .none)]))])), mSet 8 (mBin fAdd (mSlot 8) (mLst [mEsc (mTel ("none" : Str) ht__law_error (mCall 3 p_are_alike_words [mEsc (mC (.int 2)), mEsc (mTup []), mEsc (mSlot 7)]))]))]), mRet (mBin fEq (mSlot 8) (mBin fAdd (mBin fMul (mLst [mEsc (mC (.str ("number" : Str)))]) (mC (.int 20))) (mBin fMul (mLst [mEsc (mC (.str ("word" : Str)))]) (mC (.int 80)))))]
def p__law_limits_right : PF := pfOf 11 m__law_limits_right
theorem dn__law_limits_right : denD ⟨N__law_limits_right, defScope st__law_limits_right, fun _ => true, gl__law_limits_right, true, []⟩ (defBody st__law_limits_right) = some (m__law_limits_right) := by kernel_rfl
theorem sc__law_limits_right : FnScope N__law_limits_right ps__law_limits_right (defScope st__law_limits_right) := ⟨rfl, rfl, rfl, by decide +kernel, rfl, by decide +kernel, by decide +kernel⟩
/-! ### _law_roll -/
def st__law_roll : Stmt := top 35
def N__law_roll : List Str := ["cup", "many", "found"]
def ps__law_roll : List Str := ["cup", "many"]
def gl__law_roll : List (Str × Gv) := [("int", .blt)]
def m__law_roll : M Fl := mBlk [mIfS (mBin fGt (mBin fItem (mSlot 0) (mC (.int 0))) (mC (.int 0))) (mBlk [mSet 2 (mBin fMod (mPrim fInt [mBin fItem (mSlot 0) (mC (.int 0))]) (mSlot 1)), mStore 0 (mC (.int 0)) (mBin fDiv (mBin fItem (mSlot 0) (mC (.int 0))) (mSlot 1)), mRet (mSlot 2)]) (mBlk []), mStore 0 (mC (.int 1)) (mBin fMod (mPrim fInt [mBin fAdd (mBin fMul (mBin fItem (mSlot 0) (mC (.int 1))) (mC (.int 22717))) (mC (.int 47143))]) (mC (.int 1048576))), mRet (mBin fMod (mPrim fInt [mBin fDiv (mBin fItem (mSlot 0) (mC (.int 1))) (mC (.int 139))]) (mSlot 1))]
def p__law_roll : PF := pfOf 3 m__law_roll
theorem dn__law_roll : denD ⟨N__law_roll, defScope st__law_roll, fun _ => true, gl__law_roll, false, []⟩ (defBody st__law_roll) = some (m__law_roll) := by kernel_rfl
theorem sc__law_roll : FnScope N__law_roll ps__law_roll (defScope st__law_roll) := ⟨rfl, rfl, rfl, by decide +kernel, rfl, by decide +kernel, by decide +kernel⟩
/-! ### _law_some -/
def st__law_some : Stmt := top 36
def N__law_some : List Str := ["cup", "things"]
def ps__law_some : List Str := ["cup", "things"]
def gl__law_some : List (Str × Gv) := [("_law_roll", .fn 2 (some 0) p__law_roll), ("len", .blt)]
def m__law_some : M Fl := mBlk [mRet (mBin fItem (mSlot 1) (mCall 2 p__law_roll [mSlot 0, mEsc (mPrim fLen [mSlot 1])]))]
def p__law_some : PF := pfOf 2 m__law_some
theorem dn__law_some : denD ⟨N__law_some, defScope st__law_some, fun _ => true, gl__law_some, false, []⟩ (defBody st__law_some) = some (m__law_some) := by kernel_rfl
theorem sc__law_some : FnScope N__law_some ps__law_some (defScope st__law_some) := ⟨rfl, rfl, rfl, by decide +kernel, rfl, by decide +kernel, by decide +kernel⟩
/-! ### _law_word -/
def st__law_word : Stmt := top 40
def N__law_word : List Str := ["cup", "rims", "most", "word", "many", "step", "kind", "places"]
def ps__law_word : List Str := ["cup", "rims", "most"]
def gl__law_word : List (Str × Gv) := [("range", .blt), ("_law_roll", .fn 2 (some 0) p__law_roll), ("_law_some", .fn 2 (some 0) p__law_some)]
def m__law_word : M Fl := mBlk [mPar [3, 4] [mEsr (mTup []), mEsr (mSlot 1)], mFor (mWalk fRange1 [mEsc (mCall 2 p__law_roll [mSlot 0, mEsc (mBin fAdd (mSlot 2) (mC (.int 1)))])]) (.n 5) (mBlk [mSet 6 (mCall 2 p__law_some [mSlot 0, mEsc (mLst [mEsc (mC (.str ("start" : Str))), mEsc (mC (.str ("end" : Str))), mEsc (mC (.str ("join" : Str))), mEsc (mC (.str ("part" : Str))), mEsc (mC (.str ("swap" : Str))), mEsc (mC (.str ("join" : Str))), mEsc (mC (.str ("part" : Str)))])]), mIfS (mAnd (mBin fGt (mSlot 4) (mC (.int 7))) (mBin (fIn false) (mSlot 6) (mLst [mEsc (mC (.str ("start" : Str))), mEsc (mC (.str ("part" : Str)))]))) (mBlk [mSet 6 (mC (.str ("join" : Str)))]) (mBlk []), mIfS (mAnd (mBin fLt (mSlot 4) (mC (.int 2))) (mBin (fIn false) (mSlot 6) (mLst [mEsc (mC (.str ("join" : Str))), mEsc (mC (.str ("swap" : Str)))]))) (mBlk [mSet 6 (mC (.str ("part" : Str)))]) (mBlk []), mIfS (mBin fLt (mSlot 4) (mC (.int 1))) (mBlk [mSet 6 (mC (.str ("start" : Str)))]) (mBlk []), mSet 7 (mIf (mBin fEq (mSlot 6) (mC (.str ("start" : Str)))) (mBin fAdd (mSlot 4) (mC (.int 1))) (mIf (mBin (fIn false) (mSlot 6) (mLst [mEsc (mC (.str ("join" : Str))), mEsc (mC (.str ("swap" : Str)))])) (mBin fSub (mSlot 4) (mC (.int 1))) (mSlot 4))), mSet 3 (mBin fAdd (mSlot 3) (mTup [mEsc (mTup [mEsc (mSlot 6), mEsc (mCall 2 p__law_roll [mSlot 0, mEsc (mSlot 7)])])])), mSet 4 (mBin fAdd (mSlot 4) (mIf (mBin (fIn false) (mSlot 6) (mLst [mEsc (mC (.str ("start" : Str))), mEsc (mC (.str ("part" : Str)))])) (mC (.int 1)) (mIf (mBin (fIn false) (mSlot 6) (mLst [mEsc (mC (.str ("end" : Str))), mEsc (mC (.str ("join" : Str)))])) (mUn fNeg (mC (.int 1))) (mC (.int 0)))))]), mRet (mSlot 3)]
def p__law_word : PF := pfOf 8 m__law_word
theorem dn__law_word : denD ⟨N__law_word, defScope st__law_word, fun _ => true, gl__law_word, false, []⟩ (defBody st__law_word) = some (m__law_word) := by kernel_rfl
theorem sc__law_word : FnScope N__law_word ps__law_word (defScope st__law_word) := ⟨rfl, rfl, rfl, by decide +kernel, rfl, by decide +kernel, by decide +kernel⟩
/-! ### _law_along -/
def st__law_along : Stmt := top 42
def N__law_along : List Str := ["rims", "word", "found", "kind", "at", "many"]
def ps__law_along : List Str := ["rims", "word"]
def gl__law_along : List (Str × Gv) := [("tuple", .blt)]
def m__law_along : M Fl := mBlk [mSet 2 (mLst [mEsc (mSlot 0)]), mFor (mSeq (mSlot 1)) (.t [3, 4]) (mBlk [mSet 5 (mBin fItem (mSlot 2) (mUn fNeg (mC (.int 1)))), mIfS (mOr (mBin (fIn true) (mSlot 3) (mLst [mEsc (mC (.str ("start" : Str))), mEsc (mC (.str ("end" : Str))), mEsc (mC (.str ("join" : Str))), mEsc (mC (.str ("part" : Str))), mEsc (mC (.str ("swap" : Str)))])) (mBin fLt (mSlot 4) (mC (.int 0)))) (mBlk [mRet (mC .none)]) (mBlk []), mIfS (mBin fGt (mSlot 4) (mBin fSub (mSlot 5) (mIf (mBin fEq (mSlot 3) (mC (.str ("start" : Str)))) (mC (.int 0)) (mIf (mBin (fIn false) (mSlot 3) (mLst [mEsc (mC (.str ("join" : Str))), mEsc (mC (.str ("swap" : Str)))])) (mC (.int 2)) (mC (.int 1)))))) (mBlk [mRet (mC .none)]) (mBlk []), mSet 2 (mBin fAdd (mSlot 2) (mLst [mEsc (mBin fAdd (mSlot 5) (mIf (mBin (fIn false) (mSlot 3) (mLst [mEsc (mC (.str ("start" : Str))), mEsc (mC (.str ("part" : Str)))])) (mC (.int 1)) (mIf (mBin (fIn false) (mSlot 3) (mLst [mEsc (mC (.str ("end" : Str))), mEsc (mC (.str ("join" : Str)))])) (mUn fNeg (mC (.int 1))) (mC (.int 0)))))]))]), mRet (mPrim fTuple [mSlot 2])]
def p__law_along : PF := pfOf 6 m__law_along
theorem dn__law_along : denD ⟨N__law_along, defScope st__law_along, fun _ => true, gl__law_along, false, []⟩ (defBody st__law_along) = some (m__law_along) := by kernel_rfl
theorem sc__law_along : FnScope N__law_along ps__law_along (defScope st__law_along) := ⟨rfl, rfl, rfl, by decide +kernel, rfl, by decide +kernel, by decide +kernel⟩
/-! ### _law_glued -/
def st__law_glued : Stmt := top 41
def N__law_glued : List Str := ["rims", "word", "row", "euler", "fresh", "ins", "kind", "at", "one", "other", "own", "parts", "shut", "mark", "mine", "its", "holes"]
def ps__law_glued : List Str := ["rims", "word"]
def gl__law_glued : List (Str × Gv) := [("list", .blt), ("range", .blt), ("len", .blt), ("tuple", .blt), ("sorted", .blt)]
def m__law_glued : M Fl := mBlk [mPar [2, 3, 4] [mEsr (mUn fRL1 (mSlot 0)), mEsr (mBin fMul (mLst [mEsc (mC (.int 0))]) (mSlot 0)), mEsr (mSlot 0)], mSet 5 (mUn fRL1 (mSlot 0)), mFor (mSeq (mSlot 1)) (.t [6, 7]) (mBlk [mIfS (mBin fEq (mSlot 6) (mC (.str ("start" : Str)))) (mBlk [mPar [2, 3, 4] [mEsr (mBin fAdd (mBin fAdd (mCut (mSlot 2) (optM none) (optM (some (mSlot 7)))) (mLst [mEsc (mSlot 4)])) (mCut (mSlot 2) (optM (some (mSlot 7))) (optM none))), mEsr (mBin fAdd (mSlot 3) (mLst [mEsc (mC (.int 1))])), mEsr (mBin fAdd (mSlot 4) (mC (.int 1)))]]) (mBlk []), mIfS (mBin fEq (mSlot 6) (mC (.str ("end" : Str)))) (mBlk [mStore 3 (mBin fItem (mSlot 2) (mSlot 7)) (mBin fAdd (mBin fItem (mSlot 3) (mBin fItem (mSlot 2) (mSlot 7))) (mC (.int 1))), mSet 2 (mBin fAdd (mCut (mSlot 2) (optM none) (optM (some (mSlot 7)))) (mCut (mSlot 2) (optM (some (mBin fAdd (mSlot 7) (mC (.int 1))))) (optM none)))]) (mBlk []), mIfS (mBin fEq (mSlot 6) (mC (.str ("part" : Str)))) (mBlk [mStore 3 (mBin fItem (mSlot 2) (mSlot 7)) (mBin fSub (mBin fItem (mSlot 3) (mBin fItem (mSlot 2) (mSlot 7))) (mC (.int 1))), mSet 2 (mBin fAdd (mBin fAdd (mCut (mSlot 2) (optM none) (optM (some (mSlot 7)))) (mLst [mEsc (mBin fItem (mSlot 2) (mSlot 7))])) (mCut (mSlot 2) (optM (some (mSlot 7))) (optM none)))]) (mBlk []), mIfS (mBin fEq (mSlot 6) (mC (.str ("swap" : Str)))) (mBlk [mSet 2 (mBin fAdd (mBin fAdd (mCut (mSlot 2) (optM none) (optM (some (mSlot 7)))) (mLst [mEsc (mBin fItem (mSlot 2) (mBin fAdd (mSlot 7) (mC (.int 1)))), mEsc (mBin fItem (mSlot 2) (mSlot 7))])) (mCut (mSlot 2) (optM (some (mBin fAdd (mSlot 7) (mC (.int 2))))) (optM none)))]) (mBlk []), mIfS (mBin fEq (mSlot 6) (mC (.str ("join" : Str)))) (mBlk [mPar [8, 9] [mEsr (mBin fItem (mSlot 2) (mSlot 7)), mEsr (mBin fItem (mSlot 2) (mBin fAdd (mSlot 7) (mC (.int 1))))], mStore 3 (mSlot 8) (mBin fSub (mBin fItem (mSlot 3) (mSlot 8)) (mC (.int 1))), mIfS (mBin fNe (mSlot 8) (mSlot 9)) (mBlk [mStore 3 (mSlot 8) (mBin fAdd (mBin fItem (mSlot 3) (mSlot 8)) (mBin fItem (mSlot 3) (mSlot 9))), mPar [2, 5] [mEsr (mComp [10] (mSeq (mSlot 2)) (.n 10) (mC (.bool true)) (mIf (mBin fEq (mSlot 10) (mSlot 9)) (mSlot 8) (mSlot 10))), mEsr (mComp [10] (mSeq (mSlot 5)) (.n 10) (mC (.bool true)) (mIf (mBin fEq (mSlot 10) (mSlot 9)) (mSlot 8) (mSlot 10)))], mStore 3 (mSlot 9) (mC .none)]) (mBlk []), mSet 2 (mBin fAdd (mCut (mSlot 2) (optM none) (optM (some (mBin fAdd (mSlot 7) (mC (.int 1)))))) (mCut (mSlot 2) (optM (some (mBin fAdd (mSlot 7) (mC (.int 2))))) (optM none)))]) (mBlk [])]), mPar [11, 12] [mEsr (mLst []), mEsr (mLst [])], mFor (mWalk fRange1 [mEsc (mSlot 4)]) (.n 13) (mBlk [mIfS (mBin (fIs true) (mBin fItem (mSlot 3) (mSlot 13)) (mC .none)) (mBlk [mPar [14, 15] [mEsr (mPrim fTuple [mComp [7] (mWalk fRange1 [mEsc (mSlot 0)]) (.n 7) (mBin fEq (mBin fItem (mSlot 5) (mSlot 7)) (mSlot 13)) (mSlot 7)]), mEsr (mPrim fTuple [mComp [7] (mWalk fRange1 [mEsc (mPrim fLen [mSlot 2])]) (.n 7) (mBin fEq (mBin fItem (mSlot 2) (mSlot 7)) (mSlot 13)) (mSlot 7)])], mSet 16 (mBin fDiv (mBin fSub (mBin fSub (mBin fSub (mC (.int 2)) (mBin fItem (mSlot 3) (mSlot 13))) (mPrim fLen [mSlot 14])) (mPrim fLen [mSlot 15])) (mC (.int 2))), mAsg (.t [11, 12]) (mIf (mBin fNe (mBin fAdd (mSlot 14) (mSlot 15)) (mTup [])) (mTup [mEsc (mBin fAdd (mSlot 11) (mLst [mEsc (mTup [mEsc (mSlot 14), mEsc (mSlot 15), mEsc (mSlot 16)])])), mEsc (mSlot 12)]) (mTup [mEsc (mSlot 11), mEsc (mBin fAdd (mSlot 12) (mLst [mEsc (mSlot 16)]))]))]) (mBlk [])]), mRet (mTup [mEsc (mSlot 0), mEsc (mPrim fLen [mSlot 2]), mEsc (mPrim fTuple [mPrim fSorted [mSlot 11]]), mEsc (mPrim fTuple [mPrim fSorted [mSlot 12]])])]
def p__law_glued : PF := pfOf 17 m__law_glued
theorem dn__law_glued : denD ⟨N__law_glued, defScope st__law_glued, fun _ => true, gl__law_glued, false, []⟩ (defBody st__law_glued) = some (m__law_glued) := by kernel_rfl
theorem sc__law_glued : FnScope N__law_glued ps__law_glued (defScope st__law_glued) := ⟨rfl, rfl, rfl, by decide +kernel, rfl, by decide +kernel, by decide +kernel⟩
/-! ### _law_words_right -/
def st__law_words_right : Stmt := top 43
def N__law_words_right : List Str := ["cup", "rims", "word", "told", "at", "piece", "bent", "along", "due", "alike", "name"]
def ps__law_words_right : List Str := ["cup"]
def gl__law_words_right : List (Str × Gv) := [("_law_roll", .fn 2 (some 0) p__law_roll), ("_law_word", .fn 3 (some 0) p__law_word), ("_law_along", .fn 2 none p__law_along), ("_law_some", .fn 2 (some 0) p__law_some), ("is_piece_word", .fn 2 none p_is_piece_word), ("rims_along", .fn 2 none p_rims_along), ("surface_of_word", .fn 2 none p_surface_of_word), ("_law_like", .fn 2 none (p__law_like 20)), ("len", .blt), ("_law_glued", .fn 2 none p__law_glued), ("_law_error", .tel ("none" : Str) ht__law_error), ("are_alike_words", .fn 3 none p_are_alike_words)]
def m__law_words_right : M Fl := mBlk [mSet 1 (mCall 2 p__law_roll [mSlot 0, mEsc (mC (.int 9))]), mSet 2 (mCall 3 p__law_word [mSlot 0, mEsc (mSlot 1), mEsc (mCall 2 p__law_some [mSlot 0, mEsc (mLst [mEsc (mC (.int 3)), mEsc (mC (.int 8)), mEsc (mC (.int 20))])])]), mSet 3 (mLst [mEsc (mCall 2 p_is_piece_word [mEsc (mSlot 1), mEsc (mSlot 2)]), mEsc (mCall 2 p_rims_along [mEsc (mSlot 1), mEsc (mSlot 2)]), mEsc (mCall 2 p_surface_of_word [mEsc (mSlot 1), mEsc (mSlot 2)])]), mIfS (mNot (mCall 2 (p__law_like 20) [mEsc (mSlot 3), mEsc (mLst [mEsc (mC (.bool true)), mEsc (mCall 2 p__law_along [mEsc (mSlot 1), mEsc (mSlot 2)]), mEsc (mCall 2 p__law_glued [mEsc (mSlot 1), mEsc (mSlot 2)])])])) (mBlk [mRet (mC (.bool false))]) (mBlk []), mSet 4 (mCall 2 p__law_roll [mSlot 0, mEsc (mBin fAdd (mPrim fLen [mSlot 2]) (mC (.int 1)))]), mSet 5 (mTup [mEsc (mCall 2 p__law_some [mSlot 0, mEsc (mLst [mEsc (mC (.str ("start" : Str))), mEsc (mC (.str ("end" : Str))), mEsc (mC (.str ("join" : Str))), mEsc (mC (.str ("part" : Str))), mEsc (mC (.str ("swap" : Str))), mEsc (mC (.str ("turn" : Str)))])]), mEsc (mBin fSub (mCall 2 p__law_roll [mSlot 0, mEsc (mC (.int 10))]) (mC (.int 1)))]), mSet 6 (mBin fAdd (mBin fAdd (mCut (mSlot 2) (optM none) (optM (some (mSlot 4)))) (mTup [mEsc (mSlot 5)])) (mCut (mSlot 2) (optM (some (mBin fAdd (mSlot 4) (mCall 2 p__law_roll [mSlot 0, mEsc (mC (.int 2))])))) (optM none))), mSet 7 (mCall 2 p__law_along [mEsc (mSlot 1), mEsc (mSlot 6)]), mSet 8 (mAnd (mBin (fIs true) (mSlot 7) (mC .none)) (mBin fLt (mBin fItem (mSlot 7) (mUn fNeg (mC (.int 1)))) (mC (.int 9)))), mIfS (mNot (mCall 2 (p__law_like 20) [mEsc (mCall 2 p_is_piece_word [mEsc (mSlot 1), mEsc (mSlot 6)]), mEsc (mSlot 8)])) (mBlk [mRet (mC (.bool false))]) (mBlk []), mIfS (mSlot 8) (mBlk [mSet 9 (mBin fEq (mCall 2 p__law_glued [mEsc (mSlot 1), mEsc (mSlot 2)]) (mCall 2 p__law_glued [mEsc (mSlot 1), mEsc (mSlot 6)])), mRet (mCall 2 (p__law_like 20) [mEsc (mLst [mEsc (mCall 2 p_surface_of_word [mEsc (mSlot 1), mEsc (mSlot 6)]), mEsc (mCall 3 p_are_alike_words [mEsc (mSlot 1), mEsc (mSlot 2), mEsc (mSlot 6)])]), mEsc (mLst [mEsc (mCall 2 p__law_glued [mEsc (mSlot 1), mEsc (mSlot 6)]), mEsc (mSlot 9)])])]) (mBlk []), mRet (mBin fEq (mCompF 10 [10] ["rims_along", "surface_of_word"] (mC (.bool true)) (mTel ("none" : Str) ht__law_error (mCallV (tabF gl__law_words_right) 10 [mEsc (mSlot 1), mEsc (mSlot 6)]))) (mLst [mEsc (mC (.str ("word" : Str))), mEsc (mC (.str ("word" : Str)))]))]
def p__law_words_right : PF := pfOf 11 m__law_words_right
theorem dn__law_words_right : denD ⟨N__law_words_right, defScope st__law_words_right, fun _ => true, gl__law_words_right, true, []⟩ (defBody st__law_words_right) = some (m__law_words_right) := by kernel_rfl
theorem sc__law_words_right : FnScope N__law_words_right ps__law_words_right (defScope st__law_words_right) := ⟨rfl, rfl, rfl, by decide +kernel, rfl, by decide +kernel, by decide +kernel⟩
/-! ### _law_joined_right -/
def st__law_joined_right : Stmt := top 44
def N__law_joined_right : List Str := ["cup", "rims", "ahead", "many", "one", "at", "other", "behind", "told"]
def ps__law_joined_right : List Str := ["cup"]
def gl__law_joined_right : List (Str × Gv) := [("_law_roll", .fn 2 (some 0) p__law_roll), ("_law_word", .fn 3 (some 0) p__law_word), ("_law_like", .fn 2 none (p__law_like 20)), ("_law_along", .fn 2 none p__law_along), ("are_alike_words", .fn 3 none p_are_alike_words), ("_law_some", .fn 2 (some 0) p__law_some)]
def m__law_joined_right : M Fl := mBlk [mSet 1 (mCall 2 p__law_roll [mSlot 0, mEsc (mC (.int 9))]), mSet 2 (mCall 3 p__law_word [mSlot 0, mEsc (mSlot 1), mEsc (mC (.int 6))]), mSet 3 (mBin fItem (mCall 2 p__law_along [mEsc (mSlot 1), mEsc (mSlot 2)]) (mUn fNeg (mC (.int 1)))), mSet 4 (mCall 3 p__law_word [mSlot 0, mEsc (mSlot 3), mEsc (mC (.int 6))]), mSet 5 (mCall 2 p__law_roll [mSlot 0, mEsc (mBin fAdd (mSlot 3) (mC (.int 1)))]), mSet 6 (mBin fAdd (mTup [mEsc (mTup [mEsc (mC (.str ("start" : Str))), mEsc (mSlot 5)]), mEsc (mTup [mEsc (mC (.str ("end" : Str))), mEsc (mSlot 5)])]) (mSlot 4)), mIfS (mBin fGt (mSlot 3) (mC (.int 0))) (mBlk [mSet 5 (mCall 2 p__law_roll [mSlot 0, mEsc (mSlot 3)]), mSet 6 (mBin fAdd (mCall 2 p__law_some [mSlot 0, mEsc (mLst [mEsc (mTup [mEsc (mTup [mEsc (mC (.str ("part" : Str))), mEsc (mSlot 5)]), mEsc (mTup [mEsc (mC (.str ("end" : Str))), mEsc (mSlot 5)])]), mEsc (mTup [mEsc (mTup [mEsc (mC (.str ("start" : Str))), mEsc (mSlot 5)]), mEsc (mTup [mEsc (mC (.str ("join" : Str))), mEsc (mSlot 5)])]), mEsc (mTup [mEsc (mTup [mEsc (mC (.str ("part" : Str))), mEsc (mSlot 5)]), mEsc (mTup [mEsc (mC (.str ("swap" : Str))), mEsc (mSlot 5)]), mEsc (mTup [mEsc (mC (.str ("end" : Str))), mEsc (mBin fAdd (mSlot 5) (mC (.int 1)))])])])]) (mSlot 4))]) (mBlk []), mSet 7 (mCall 3 p__law_word [mSlot 0, mEsc (mBin fItem (mCall 2 p__law_along [mEsc (mSlot 3), mEsc (mSlot 4)]) (mUn fNeg (mC (.int 1)))), mEsc (mC (.int 6))]), mSet 8 (mLst [mEsc (mCall 3 p_are_alike_words [mEsc (mSlot 3), mEsc (mSlot 4), mEsc (mSlot 6)]), mEsc (mCall 3 p_are_alike_words [mEsc (mSlot 1), mEsc (mBin fAdd (mBin fAdd (mSlot 2) (mSlot 4)) (mSlot 7)), mEsc (mBin fAdd (mBin fAdd (mSlot 2) (mSlot 6)) (mSlot 7))])]), mRet (mCall 2 (p__law_like 20) [mEsc (mSlot 8), mEsc (mLst [mEsc (mBin fGt (mSlot 3) (mC (.int 0))), mEsc (mBin fGt (mSlot 3) (mC (.int 0)))])])]
def p__law_joined_right : PF := pfOf 9 m__law_joined_right
theorem dn__law_joined_right : denD ⟨N__law_joined_right, defScope st__law_joined_right, fun _ => true, gl__law_joined_right, false, []⟩ (defBody st__law_joined_right) = some (m__law_joined_right) := by kernel_rfl
theorem sc__law_joined_right : FnScope N__law_joined_right ps__law_joined_right (defScope st__law_joined_right) := ⟨rfl, rfl, rfl, by decide +kernel, rfl, by decide +kernel, by decide +kernel⟩
/-! ### law -/
def st_law : Stmt := top 46
def N_law : List Str := ["script", "cup", "turn"]
def ps_law : List Str := ["script"]
def gl_law : List (Str × Gv) := [("_law_cup", .fn 1 none p__law_cup), ("range", .blt), ("_law_limits_right", .fn 1 (some 0) p__law_limits_right), ("_law_words_right", .fn 1 (some 0) p__law_words_right), ("_law_joined_right", .fn 1 (some 0) p__law_joined_right)]
def m_law : M Fl := mBlk [mSet 1 (mCall 1 p__law_cup [mEsc (mSlot 0)]), mIfS (mNot (mCall 1 p__law_limits_right [mSlot 1])) (mBlk [mRet (mC (.bool false))]) (mBlk []), mFor (mWalk fRange1 [mEsc (mC (.int 8))]) (.n 2) (mBlk [mIfS (mOr (mNot (mCall 1 p__law_words_right [mSlot 1])) (mNot (mCall 1 p__law_joined_right [mSlot 1]))) (mBlk [mRet (mC (.bool false))]) (mBlk [])]), mRet (mC (.bool true))]
def p_law : PF := pfOf 3 m_law
theorem dn_law : denD ⟨N_law, defScope st_law, fun _ => true, gl_law, false, []⟩ (defBody st_law) = some (m_law) := by kernel_rfl
theorem sc_law : FnScope N_law ps_law (defScope st_law) := ⟨rfl, rfl, rfl, by decide +kernel, rfl, by decide +kernel, by decide +kernel⟩
/-! ### the head: facts by names -/
def d__law_cup : He.DefD := ⟨("_law_cup", none), "_law_cup", "_law_cup", defArgs st__law_cup, defBody st__law_cup, defScope st__law_cup, [], []⟩
def d__law_sort : He.DefD := ⟨("_law_sort", none), "_law_sort", "_law_sort", defArgs st__law_sort, defBody st__law_sort, defScope st__law_sort, [], []⟩
def d__law_like : He.DefD := ⟨("_law_like", none), "_law_like", "_law_like", defArgs st__law_like, defBody st__law_like, defScope st__law_like, [], []⟩
def d_is_whole : He.DefD := ⟨("is_whole", none), "is_whole", "is_whole", defArgs st_is_whole, defBody st_is_whole, defScope st_is_whole, [], []⟩
def d_need_whole : He.DefD := ⟨("need_whole", none), "need_whole", "need_whole", defArgs st_need_whole, defBody st_need_whole, defScope st_need_whole, [], []⟩
def d_need_rims : He.DefD := ⟨("need_rims", none), "need_rims", "need_rims", defArgs st_need_rims, defBody st_need_rims, defScope st_need_rims, [], []⟩
def d_is_tuple_of : He.DefD := ⟨("is_tuple_of", none), "is_tuple_of", "is_tuple_of", defArgs st_is_tuple_of, defBody st_is_tuple_of, defScope st_is_tuple_of, [], []⟩
def d_is_piece_of : He.DefD := ⟨("is_piece_of", none), "is_piece_of", "is_piece_of", defArgs st_is_piece_of, defBody st_is_piece_of, defScope st_is_piece_of, [], []⟩
def d_rims_behind : He.DefD := ⟨("rims_behind", none), "rims_behind", "rims_behind", defArgs st_rims_behind, defBody st_rims_behind, defScope st_rims_behind, [], []⟩
def d_rims_of : He.DefD := ⟨("rims_of", none), "rims_of", "rims_of", defArgs st_rims_of, defBody st_rims_of, defScope st_rims_of, [], []⟩
def d_is_word_from : He.DefD := ⟨("is_word_from", none), "is_word_from", "is_word_from", defArgs st_is_word_from, defBody st_is_word_from, defScope st_is_word_from, [], []⟩
def d_need_word : He.DefD := ⟨("need_word", none), "need_word", "need_word", defArgs st_need_word, defBody st_need_word, defScope st_need_word, [], []⟩
def d_plain_in : He.DefD := ⟨("plain_in", none), "plain_in", "plain_in", defArgs st_plain_in, defBody st_plain_in, defScope st_plain_in, [], []⟩
def d_shifted : He.DefD := ⟨("shifted", none), "shifted", "shifted", defArgs st_shifted, defBody st_shifted, defScope st_shifted, [], []⟩
def d_exchanged : He.DefD := ⟨("exchanged", none), "exchanged", "exchanged", defArgs st_exchanged, defBody st_exchanged, defScope st_exchanged, [], []⟩
def d_without : He.DefD := ⟨("without", none), "without", "without", defArgs st_without, defBody st_without, defScope st_without, [], []⟩
def d_ended : He.DefD := ⟨("ended", none), "ended", "ended", defArgs st_ended, defBody st_ended, defScope st_ended, [], []⟩
def d_grown : He.DefD := ⟨("grown", none), "grown", "grown", defArgs st_grown, defBody st_grown, defScope st_grown, [], []⟩
def d_parted : He.DefD := ⟨("parted", none), "parted", "parted", defArgs st_parted, defBody st_parted, defScope st_parted, [], []⟩
def d_led_by : He.DefD := ⟨("led_by", none), "led_by", "led_by", defArgs st_led_by, defBody st_led_by, defScope st_led_by, [], []⟩
def d_surface_by : He.DefD := ⟨("surface_by", none), "surface_by", "surface_by", defArgs st_surface_by, defBody st_surface_by, defScope st_surface_by, [], []⟩
def d_surface_of_word : He.DefD := ⟨("surface_of_word", none), "surface_of_word", "surface_of_word", defArgs st_surface_of_word, defBody st_surface_of_word, defScope st_surface_of_word, [], []⟩
def d_is_piece_word : He.DefD := ⟨("is_piece_word", none), "is_piece_word", "is_piece_word", defArgs st_is_piece_word, defBody st_is_piece_word, defScope st_is_piece_word, [], []⟩
def d_rims_along : He.DefD := ⟨("rims_along", none), "rims_along", "rims_along", defArgs st_rims_along, defBody st_rims_along, defScope st_rims_along, [], []⟩
def d_are_alike_words : He.DefD := ⟨("are_alike_words", none), "are_alike_words", "are_alike_words", defArgs st_are_alike_words, defBody st_are_alike_words, defScope st_are_alike_words, [], []⟩
def d__law_limits_right : He.DefD := ⟨("_law_limits_right", none), "_law_limits_right", "_law_limits_right", defArgs st__law_limits_right, defBody st__law_limits_right, defScope st__law_limits_right, [], []⟩
def d__law_roll : He.DefD := ⟨("_law_roll", none), "_law_roll", "_law_roll", defArgs st__law_roll, defBody st__law_roll, defScope st__law_roll, [], []⟩
def d__law_some : He.DefD := ⟨("_law_some", none), "_law_some", "_law_some", defArgs st__law_some, defBody st__law_some, defScope st__law_some, [], []⟩
def d__law_word : He.DefD := ⟨("_law_word", none), "_law_word", "_law_word", defArgs st__law_word, defBody st__law_word, defScope st__law_word, [], []⟩
def d__law_along : He.DefD := ⟨("_law_along", none), "_law_along", "_law_along", defArgs st__law_along, defBody st__law_along, defScope st__law_along, [], []⟩
def d__law_glued : He.DefD := ⟨("_law_glued", none), "_law_glued", "_law_glued", defArgs st__law_glued, defBody st__law_glued, defScope st__law_glued, [], []⟩
def d__law_words_right : He.DefD := ⟨("_law_words_right", none), "_law_words_right", "_law_words_right", defArgs st__law_words_right, defBody st__law_words_right, defScope st__law_words_right, [], []⟩
def d__law_joined_right : He.DefD := ⟨("_law_joined_right", none), "_law_joined_right", "_law_joined_right", defArgs st__law_joined_right, defBody st__law_joined_right, defScope st__law_joined_right, [], []⟩
def d_law : He.DefD := ⟨("law", none), "law", "law", defArgs st_law, defBody st_law, defScope st_law, [], []⟩
def d__law_error : He.DefD := ⟨("_law_error", none), "_law_error", "_law_error", defArgs st__law_error, defBody st__law_error, defScope st__law_error, [], []⟩
def fnL : List He.DefD := [d__law_cup, d__law_sort, d__law_like, d_is_whole, d_need_whole, d_need_rims, d_is_tuple_of, d_is_piece_of, d_rims_behind, d_rims_of, d_is_word_from, d_need_word, d_plain_in, d_shifted, d_exchanged, d_without, d_ended, d_grown, d_parted, d_led_by, d_surface_by, d_surface_of_word, d_is_piece_word, d_rims_along, d_are_alike_words, d__law_limits_right, d__law_roll, d__law_some, d__law_word, d__law_along, d__law_glued, d__law_words_right, d__law_joined_right, d_law, d__law_error]
def faL : List He.Fa := [.glo "_law_cup", .glo "_law_sort", .glo "_law_like", .glo "is_whole", .glo "need_whole", .glo "need_rims", .glo "is_tuple_of", .glo "is_piece_of", .glo "rims_behind", .glo "rims_of", .glo "is_word_from", .glo "need_word", .glo "plain_in", .glo "shifted", .glo "exchanged", .glo "without", .glo "ended", .glo "grown", .glo "parted", .glo "led_by", .glo "surface_by", .glo "surface_of_word", .glo "is_piece_word", .glo "rims_along", .glo "are_alike_words", .glo "_law_limits_right", .glo "_law_roll", .glo "_law_some", .glo "_law_word", .glo "_law_along", .glo "_law_glued", .glo "_law_words_right", .glo "_law_joined_right", .glo "law", .glo "_law_error", .glo "InvalidNumber", .glo "InvalidWord", .glo "SurfaceError", .glo "KINDS", .exc "InvalidNumber", .exc "InvalidWord", .free "abs", .free "int", .free "list", .free "isinstance", .free "bool", .free "str", .free "tuple", .free "len", .free "zip", .free "max", .free "range", .free "sorted", .free "sum", .int "RIMS" (8), .int "WIDE" (20), .int "PIECES" (400)]
def lamL : List Str := ["_law_limits_right", "_law_words_right"]
def exL (K : PySem.W.Frag) : Bool := lamL.all (lamK K) && (clsB K "SurfaceError" cs__law_error && (isB K is__law_error && (tupSB K "KINDS" [("end" : Str), ("join" : Str), ("part" : Str), ("start" : Str), ("swap" : Str)])))
section
variable {P : Program} {w : World} {K : PySem.W.Frag} {mg : Str → Option Value} {base h : Heap}
theorem ok__law_error (X : K.In h) (G : h.Ns mainGlobals mg) (c : He.SaysD faL fnL K) (e : exL K = true) : GvK P w K mg base (XRK K) 0 "_law_error" (.tel ("none" : Str) ht__law_error) := by
  obtain ⟨fd, F⟩ := c.def_ 34 (d := d__law_error) rfl
  exact tel_of (a := "call") (e := "SurfaceError") (y := "e") (ret := ("none" : Str)) (st := st__law_error) (N := N__law_error) (i := 1) (cs := cs__law_error) (is := is__law_error) (htL := htL__law_error) (sw := sw__law_error) F (He.glo_ok X G (c.fact 34 (f := .glo "_law_error") rfl))
    (F.bindsN (ps := ["call"]) fun _ _ _ _ _ _ us hl => match us, hl with | [_], _ => rfl) sc__law_error ty__law_error rfl rfl (by decide +kernel) (by decide +kernel) (by decide +kernel) (by unfold Vis; decide +kernel) (by decide +kernel) (by decide +kernel) (by decide +kernel) (He.glo_ok X G (c.fact 37 (f := .glo "SurfaceError") rfl)) (He.free_ok X G (c.fact 44 (f := .free "isinstance") rfl))
    ((Bool.and_eq_true_iff.mp (Bool.and_eq_true_iff.mp e).2).1) ((Bool.and_eq_true_iff.mp (Bool.and_eq_true_iff.mp (Bool.and_eq_true_iff.mp e).2).2).1)
    (by unfold is__law_error; simp only [List.forall_mem_cons, List.not_mem_nil, false_imp_iff, implies_true, and_true]; exact ⟨⟨by decide +kernel, by decide +kernel, He.glo_ok X G (c.fact 35 (f := .glo "InvalidNumber") rfl)⟩, ⟨by decide +kernel, by decide +kernel, He.glo_ok X G (c.fact 36 (f := .glo "InvalidWord") rfl)⟩, ⟨by decide +kernel, by decide +kernel, He.glo_ok X G (c.fact 35 (f := .glo "InvalidNumber") rfl)⟩, ⟨by decide +kernel, by decide +kernel, He.glo_ok X G (c.fact 36 (f := .glo "InvalidWord") rfl)⟩⟩)
    (by unfold cs__law_error; simp only [List.forall_mem_cons, List.not_mem_nil, false_imp_iff, implies_true, and_true]; exact ⟨sd__law_error_0, sd__law_error_1⟩)
    (by unfold htL__law_error; simp only [List.forall_mem_cons, List.not_mem_nil, false_imp_iff, implies_true, and_true]; exact ⟨⟨by decide +kernel, sr__law_error_0⟩, ⟨by decide +kernel, sr__law_error_1⟩⟩)
theorem ok__law_cup (X : K.In h) (G : h.Ns mainGlobals mg) (c : He.SaysD faL fnL K) (e : exL K = true) (B : LamB K mg base lamL) : GvK P w K mg base (XRK K) 1 "_law_cup" (.fn 1 none p__law_cup) := by
  obtain ⟨fd, F⟩ := c.def_ 0 (d := d__law_cup) rfl
  exact ⟨_, fd, ps__law_cup, rfl, fn_den (fun_nodef F) sc__law_cup (gl_cons (gv_free (He.free_ok X G (c.fact 41 (f := .free "abs") rfl))) (gl_cons (gv_free (He.free_ok X G (c.fact 42 (f := .free "int") rfl))) (gl_cons (gv_free (He.free_ok X G (c.fact 43 (f := .free "list") rfl))) (gl_nil)))) dn__law_cup, He.glo_ok X G (c.fact 0 (f := .glo "_law_cup") rfl), F.kp, F.bindsN (ps := ps__law_cup) fun _ _ _ _ _ _ us hl => match us, hl with | [_], _ => rfl, rfl⟩
theorem ok__law_sort (X : K.In h) (G : h.Ns mainGlobals mg) (c : He.SaysD faL fnL K) (e : exL K = true) (B : LamB K mg base lamL) : GvK P w K mg base (XRK K) 1 "_law_sort" (.fn 1 none p__law_sort) := by
  obtain ⟨fd, F⟩ := c.def_ 1 (d := d__law_sort) rfl
  exact ⟨_, fd, ps__law_sort, rfl, fn_den (fun_nodef F) sc__law_sort (gl_cons (gv_free (He.free_ok X G (c.fact 44 (f := .free "isinstance") rfl))) (gl_cons (gv_free (He.free_ok X G (c.fact 45 (f := .free "bool") rfl))) (gl_cons (gv_free (He.free_ok X G (c.fact 42 (f := .free "int") rfl))) (gl_cons (gv_free (He.free_ok X G (c.fact 46 (f := .free "str") rfl))) (gl_cons (gv_free (He.free_ok X G (c.fact 47 (f := .free "tuple") rfl))) (gl_cons (gv_free (He.free_ok X G (c.fact 43 (f := .free "list") rfl))) (gl_nil))))))) dn__law_sort, He.glo_ok X G (c.fact 1 (f := .glo "_law_sort") rfl), F.kp, F.bindsN (ps := ps__law_sort) fun _ _ _ _ _ _ us hl => match us, hl with | [_], _ => rfl, rfl⟩
theorem ok__law_like (X : K.In h) (G : h.Ns mainGlobals mg) (c : He.SaysD faL fnL K) (e : exL K = true) (B : LamB K mg base lamL) : ∀ n : Nat, GvK P w K mg base (XRK K) (2 + n) "_law_like" (.fn 2 none (p__law_like n)) := by
  obtain ⟨fd, F⟩ := c.def_ 2 (d := d__law_like) rfl
  intro n
  induction n with
  | zero => exact ⟨_, fd, ps__law_like, rfl, fnok_bad, He.glo_ok X G (c.fact 2 (f := .glo "_law_like") rfl), F.kp, F.bindsN (ps := ps__law_like) fun _ _ _ _ _ _ us hl => match us, hl with | [_, _], _ => rfl, rfl⟩
  | succ n ih =>
    exact ⟨_, fd, ps__law_like, rfl, fn_den (fun_nodef F) sc__law_like (gl_cons ((ok__law_sort X G c e B).mono (Nat.le_trans (by decide) (Nat.le_add_right 2 n))) (gl_cons (gv_free (He.free_ok X G (c.fact 48 (f := .free "len") rfl))) (gl_cons (gv_free (He.free_ok X G (c.fact 49 (f := .free "zip") rfl))) (gl_cons (ih) (gl_nil))))) (dn__law_like (p__law_like n)), He.glo_ok X G (c.fact 2 (f := .glo "_law_like") rfl), F.kp, F.bindsN (ps := ps__law_like) fun _ _ _ _ _ _ us hl => match us, hl with | [_, _], _ => rfl, rfl⟩
theorem ok_is_whole (X : K.In h) (G : h.Ns mainGlobals mg) (c : He.SaysD faL fnL K) (e : exL K = true) (B : LamB K mg base lamL) : GvK P w K mg base (XRK K) 1 "is_whole" (.fn 3 none p_is_whole) := by
  obtain ⟨fd, F⟩ := c.def_ 3 (d := d_is_whole) rfl
  exact ⟨_, fd, ps_is_whole, rfl, fn_den (fun_nodef F) sc_is_whole (gl_cons (gv_free (He.free_ok X G (c.fact 44 (f := .free "isinstance") rfl))) (gl_cons (gv_free (He.free_ok X G (c.fact 42 (f := .free "int") rfl))) (gl_cons (gv_free (He.free_ok X G (c.fact 45 (f := .free "bool") rfl))) (gl_nil)))) dn_is_whole, He.glo_ok X G (c.fact 3 (f := .glo "is_whole") rfl), F.kp, F.bindsN (ps := ps_is_whole) fun _ _ _ _ _ _ us hl => match us, hl with | [_, _, _], _ => rfl, rfl⟩
theorem ok_need_whole (X : K.In h) (G : h.Ns mainGlobals mg) (c : He.SaysD faL fnL K) (e : exL K = true) (B : LamB K mg base lamL) : GvK P w K mg base (XRK K) 2 "need_whole" (.fn 3 none p_need_whole) := by
  obtain ⟨fd, F⟩ := c.def_ 4 (d := d_need_whole) rfl
  exact ⟨_, fd, ps_need_whole, rfl, fn_den (fun_nodef F) sc_need_whole (gl_cons ((ok_is_whole X G c e B).mono (by decide)) (gl_cons (gv_cls X G (c.fact 35 (f := .glo "InvalidNumber") rfl) (c.fact 39 (f := .exc "InvalidNumber") rfl)) (gl_nil))) dn_need_whole, He.glo_ok X G (c.fact 4 (f := .glo "need_whole") rfl), F.kp, F.bindsN (ps := ps_need_whole) fun _ _ _ _ _ _ us hl => match us, hl with | [_, _, _], _ => rfl, rfl⟩
theorem ok_need_rims (X : K.In h) (G : h.Ns mainGlobals mg) (c : He.SaysD faL fnL K) (e : exL K = true) (B : LamB K mg base lamL) : GvK P w K mg base (XRK K) 3 "need_rims" (.fn 1 none p_need_rims) := by
  obtain ⟨fd, F⟩ := c.def_ 5 (d := d_need_rims) rfl
  exact ⟨_, fd, ps_need_rims, rfl, fn_den (fun_nodef F) sc_need_rims (gl_cons ((ok_need_whole X G c e B).mono (by decide)) (gl_cons (gv_int (He.int_ok X G (c.fact 54 (f := .int "RIMS" (8)) rfl))) (gl_nil))) dn_need_rims, He.glo_ok X G (c.fact 5 (f := .glo "need_rims") rfl), F.kp, F.bindsN (ps := ps_need_rims) fun _ _ _ _ _ _ us hl => match us, hl with | [_], _ => rfl, rfl⟩
theorem ok_is_tuple_of (X : K.In h) (G : h.Ns mainGlobals mg) (c : He.SaysD faL fnL K) (e : exL K = true) (B : LamB K mg base lamL) : GvK P w K mg base (XRK K) 1 "is_tuple_of" (.fn 3 none p_is_tuple_of) := by
  obtain ⟨fd, F⟩ := c.def_ 6 (d := d_is_tuple_of) rfl
  exact ⟨_, fd, ps_is_tuple_of, rfl, fn_den (fun_nodef F) sc_is_tuple_of (gl_cons (gv_free (He.free_ok X G (c.fact 44 (f := .free "isinstance") rfl))) (gl_cons (gv_free (He.free_ok X G (c.fact 47 (f := .free "tuple") rfl))) (gl_cons (gv_free (He.free_ok X G (c.fact 48 (f := .free "len") rfl))) (gl_nil)))) dn_is_tuple_of, He.glo_ok X G (c.fact 6 (f := .glo "is_tuple_of") rfl), F.kp, F.bindsN (ps := ps_is_tuple_of) fun _ _ _ _ _ _ us hl => match us, hl with | [_, _, _], _ => rfl, rfl⟩
theorem ok_is_piece_of (X : K.In h) (G : h.Ns mainGlobals mg) (c : He.SaysD faL fnL K) (e : exL K = true) (B : LamB K mg base lamL) : GvK P w K mg base (XRK K) 2 "is_piece_of" (.fn 2 none p_is_piece_of) := by
  obtain ⟨fd, F⟩ := c.def_ 7 (d := d_is_piece_of) rfl
  exact ⟨_, fd, ps_is_piece_of, rfl, fn_den (fun_nodef F) sc_is_piece_of (gl_cons ((ok_is_whole X G c e B).mono (by decide)) (gl_cons (gv_tupS (He.glo_ok X G (c.fact 38 (f := .glo "KINDS") rfl)) ((Bool.and_eq_true_iff.mp (Bool.and_eq_true_iff.mp (Bool.and_eq_true_iff.mp e).2).2).2)) (gl_cons ((ok_is_tuple_of X G c e B).mono (by decide)) (gl_cons (gv_free (He.free_ok X G (c.fact 44 (f := .free "isinstance") rfl))) (gl_cons (gv_free (He.free_ok X G (c.fact 46 (f := .free "str") rfl))) (gl_nil)))))) dn_is_piece_of, He.glo_ok X G (c.fact 7 (f := .glo "is_piece_of") rfl), F.kp, F.bindsN (ps := ps_is_piece_of) fun _ _ _ _ _ _ us hl => match us, hl with | [_, _], _ => rfl, rfl⟩
theorem ok_rims_behind (X : K.In h) (G : h.Ns mainGlobals mg) (c : He.SaysD faL fnL K) (e : exL K = true) (B : LamB K mg base lamL) : GvK P w K mg base (XRK K) 1 "rims_behind" (.fn 2 none p_rims_behind) := by
  obtain ⟨fd, F⟩ := c.def_ 8 (d := d_rims_behind) rfl
  exact ⟨_, fd, ps_rims_behind, rfl, fn_den (fun_nodef F) sc_rims_behind (gl_nil) dn_rims_behind, He.glo_ok X G (c.fact 8 (f := .glo "rims_behind") rfl), F.kp, F.bindsN (ps := ps_rims_behind) fun _ _ _ _ _ _ us hl => match us, hl with | [_, _], _ => rfl, rfl⟩
theorem ok_rims_of (X : K.In h) (G : h.Ns mainGlobals mg) (c : He.SaysD faL fnL K) (e : exL K = true) (B : LamB K mg base lamL) : GvK P w K mg base (XRK K) 3 "rims_of" (.fn 2 none p_rims_of) := by
  obtain ⟨fd, F⟩ := c.def_ 9 (d := d_rims_of) rfl
  exact ⟨_, fd, ps_rims_of, rfl, fn_den (fun_nodef F) sc_rims_of (gl_cons (gv_int (He.int_ok X G (c.fact 55 (f := .int "WIDE" (20)) rfl))) (gl_cons (gv_free (He.free_ok X G (c.fact 47 (f := .free "tuple") rfl))) (gl_cons ((ok_is_piece_of X G c e B).mono (by decide)) (gl_cons ((ok_rims_behind X G c e B).mono (by decide)) (gl_cons (gv_free (He.free_ok X G (c.fact 50 (f := .free "max") rfl))) (gl_nil)))))) dn_rims_of, He.glo_ok X G (c.fact 9 (f := .glo "rims_of") rfl), F.kp, F.bindsN (ps := ps_rims_of) fun _ _ _ _ _ _ us hl => match us, hl with | [_, _], _ => rfl, rfl⟩
theorem ok_is_word_from (X : K.In h) (G : h.Ns mainGlobals mg) (c : He.SaysD faL fnL K) (e : exL K = true) (B : LamB K mg base lamL) : GvK P w K mg base (XRK K) 4 "is_word_from" (.fn 2 none p_is_word_from) := by
  obtain ⟨fd, F⟩ := c.def_ 10 (d := d_is_word_from) rfl
  exact ⟨_, fd, ps_is_word_from, rfl, fn_den (fun_nodef F) sc_is_word_from (gl_cons ((ok_rims_of X G c e B).mono (by decide)) (gl_cons ((ok_is_tuple_of X G c e B).mono (by decide)) (gl_cons (gv_int (He.int_ok X G (c.fact 56 (f := .int "PIECES" (400)) rfl))) (gl_cons (gv_int (He.int_ok X G (c.fact 54 (f := .int "RIMS" (8)) rfl))) (gl_nil))))) dn_is_word_from, He.glo_ok X G (c.fact 10 (f := .glo "is_word_from") rfl), F.kp, F.bindsN (ps := ps_is_word_from) fun _ _ _ _ _ _ us hl => match us, hl with | [_, _], _ => rfl, rfl⟩
theorem ok_need_word (X : K.In h) (G : h.Ns mainGlobals mg) (c : He.SaysD faL fnL K) (e : exL K = true) (B : LamB K mg base lamL) : GvK P w K mg base (XRK K) 5 "need_word" (.fn 2 none p_need_word) := by
  obtain ⟨fd, F⟩ := c.def_ 11 (d := d_need_word) rfl
  exact ⟨_, fd, ps_need_word, rfl, fn_den (fun_nodef F) sc_need_word (gl_cons ((ok_is_word_from X G c e B).mono (by decide)) (gl_cons (gv_cls X G (c.fact 36 (f := .glo "InvalidWord") rfl) (c.fact 40 (f := .exc "InvalidWord") rfl)) (gl_nil))) dn_need_word, He.glo_ok X G (c.fact 11 (f := .glo "need_word") rfl), F.kp, F.bindsN (ps := ps_need_word) fun _ _ _ _ _ _ us hl => match us, hl with | [_, _], _ => rfl, rfl⟩
theorem ok_plain_in (X : K.In h) (G : h.Ns mainGlobals mg) (c : He.SaysD faL fnL K) (e : exL K = true) (B : LamB K mg base lamL) : GvK P w K mg base (XRK K) 1 "plain_in" (.fn 1 none p_plain_in) := by
  obtain ⟨fd, F⟩ := c.def_ 12 (d := d_plain_in) rfl
  exact ⟨_, fd, ps_plain_in, rfl, fn_den (fun_nodef F) sc_plain_in (gl_cons (gv_free (He.free_ok X G (c.fact 47 (f := .free "tuple") rfl))) (gl_cons (gv_free (He.free_ok X G (c.fact 51 (f := .free "range") rfl))) (gl_nil))) dn_plain_in, He.glo_ok X G (c.fact 12 (f := .glo "plain_in") rfl), F.kp, F.bindsN (ps := ps_plain_in) fun _ _ _ _ _ _ us hl => match us, hl with | [_], _ => rfl, rfl⟩
theorem ok_shifted (X : K.In h) (G : h.Ns mainGlobals mg) (c : He.SaysD faL fnL K) (e : exL K = true) (B : LamB K mg base lamL) : GvK P w K mg base (XRK K) 1 "shifted" (.fn 3 none p_shifted) := by
  obtain ⟨fd, F⟩ := c.def_ 13 (d := d_shifted) rfl
  exact ⟨_, fd, ps_shifted, rfl, fn_den (fun_nodef F) sc_shifted (gl_cons (gv_free (He.free_ok X G (c.fact 47 (f := .free "tuple") rfl))) (gl_nil)) dn_shifted, He.glo_ok X G (c.fact 13 (f := .glo "shifted") rfl), F.kp, F.bindsN (ps := ps_shifted) fun _ _ _ _ _ _ us hl => match us, hl with | [_, _, _], _ => rfl, rfl⟩
theorem ok_exchanged (X : K.In h) (G : h.Ns mainGlobals mg) (c : He.SaysD faL fnL K) (e : exL K = true) (B : LamB K mg base lamL) : GvK P w K mg base (XRK K) 1 "exchanged" (.fn 2 none p_exchanged) := by
  obtain ⟨fd, F⟩ := c.def_ 14 (d := d_exchanged) rfl
  exact ⟨_, fd, ps_exchanged, rfl, fn_den (fun_nodef F) sc_exchanged (gl_cons (gv_free (He.free_ok X G (c.fact 47 (f := .free "tuple") rfl))) (gl_cons (gv_free (He.free_ok X G (c.fact 52 (f := .free "sorted") rfl))) (gl_nil))) dn_exchanged, He.glo_ok X G (c.fact 14 (f := .glo "exchanged") rfl), F.kp, F.bindsN (ps := ps_exchanged) fun _ _ _ _ _ _ us hl => match us, hl with | [_, _], _ => rfl, rfl⟩
theorem ok_without (X : K.In h) (G : h.Ns mainGlobals mg) (c : He.SaysD faL fnL K) (e : exL K = true) (B : LamB K mg base lamL) : GvK P w K mg base (XRK K) 2 "without" (.fn 2 none p_without) := by
  obtain ⟨fd, F⟩ := c.def_ 15 (d := d_without) rfl
  exact ⟨_, fd, ps_without, rfl, fn_den (fun_nodef F) sc_without (gl_cons ((ok_shifted X G c e B).mono (by decide)) (gl_cons (gv_free (He.free_ok X G (c.fact 47 (f := .free "tuple") rfl))) (gl_nil))) dn_without, He.glo_ok X G (c.fact 15 (f := .glo "without") rfl), F.kp, F.bindsN (ps := ps_without) fun _ _ _ _ _ _ us hl => match us, hl with | [_, _], _ => rfl, rfl⟩
theorem ok_ended (X : K.In h) (G : h.Ns mainGlobals mg) (c : He.SaysD faL fnL K) (e : exL K = true) (B : LamB K mg base lamL) : GvK P w K mg base (XRK K) 3 "ended" (.fn 3 none p_ended) := by
  obtain ⟨fd, F⟩ := c.def_ 16 (d := d_ended) rfl
  exact ⟨_, fd, ps_ended, rfl, fn_den (fun_nodef F) sc_ended (gl_cons (gv_free (He.free_ok X G (c.fact 43 (f := .free "list") rfl))) (gl_cons ((ok_without X G c e B).mono (by decide)) (gl_nil))) dn_ended, He.glo_ok X G (c.fact 16 (f := .glo "ended") rfl), F.kp, F.bindsN (ps := ps_ended) fun _ _ _ _ _ _ us hl => match us, hl with | [_, _, _], _ => rfl, rfl⟩
theorem ok_grown (X : K.In h) (G : h.Ns mainGlobals mg) (c : He.SaysD faL fnL K) (e : exL K = true) (B : LamB K mg base lamL) : GvK P w K mg base (XRK K) 3 "grown" (.fn 2 none p_grown) := by
  obtain ⟨fd, F⟩ := c.def_ 17 (d := d_grown) rfl
  exact ⟨_, fd, ps_grown, rfl, fn_den (fun_nodef F) sc_grown (gl_cons (gv_free (He.free_ok X G (c.fact 47 (f := .free "tuple") rfl))) (gl_cons (gv_free (He.free_ok X G (c.fact 52 (f := .free "sorted") rfl))) (gl_cons (gv_free (He.free_ok X G (c.fact 53 (f := .free "sum") rfl))) (gl_cons ((ok_without X G c e B).mono (by decide)) (gl_cons (gv_free (He.free_ok X G (c.fact 48 (f := .free "len") rfl))) (gl_nil)))))) dn_grown, He.glo_ok X G (c.fact 17 (f := .glo "grown") rfl), F.kp, F.bindsN (ps := ps_grown) fun _ _ _ _ _ _ us hl => match us, hl with | [_, _], _ => rfl, rfl⟩
theorem ok_parted (X : K.In h) (G : h.Ns mainGlobals mg) (c : He.SaysD faL fnL K) (e : exL K = true) (B : LamB K mg base lamL) : GvK P w K mg base (XRK K) 2 "parted" (.fn 2 none p_parted) := by
  obtain ⟨fd, F⟩ := c.def_ 18 (d := d_parted) rfl
  exact ⟨_, fd, ps_parted, rfl, fn_den (fun_nodef F) sc_parted (gl_cons ((ok_shifted X G c e B).mono (by decide)) (gl_cons (gv_free (He.free_ok X G (c.fact 47 (f := .free "tuple") rfl))) (gl_cons (gv_free (He.free_ok X G (c.fact 52 (f := .free "sorted") rfl))) (gl_nil)))) dn_parted, He.glo_ok X G (c.fact 18 (f := .glo "parted") rfl), F.kp, F.bindsN (ps := ps_parted) fun _ _ _ _ _ _ us hl => match us, hl with | [_, _], _ => rfl, rfl⟩
theorem ok_led_by (X : K.In h) (G : h.Ns mainGlobals mg) (c : He.SaysD faL fnL K) (e : exL K = true) (B : LamB K mg base lamL) : GvK P w K mg base (XRK K) 4 "led_by" (.fn 2 none p_led_by) := by
  obtain ⟨fd, F⟩ := c.def_ 19 (d := d_led_by) rfl
  exact ⟨_, fd, ps_led_by, rfl, fn_den (fun_nodef F) sc_led_by (gl_cons ((ok_rims_behind X G c e B).mono (by decide)) (gl_cons (gv_free (He.free_ok X G (c.fact 47 (f := .free "tuple") rfl))) (gl_cons (gv_free (He.free_ok X G (c.fact 52 (f := .free "sorted") rfl))) (gl_cons ((ok_shifted X G c e B).mono (by decide)) (gl_cons ((ok_exchanged X G c e B).mono (by decide)) (gl_cons ((ok_ended X G c e B).mono (by decide)) (gl_cons ((ok_grown X G c e B).mono (by decide)) (gl_cons ((ok_parted X G c e B).mono (by decide)) (gl_nil))))))))) dn_led_by, He.glo_ok X G (c.fact 19 (f := .glo "led_by") rfl), F.kp, F.bindsN (ps := ps_led_by) fun _ _ _ _ _ _ us hl => match us, hl with | [_, _], _ => rfl, rfl⟩
theorem ok_surface_by (X : K.In h) (G : h.Ns mainGlobals mg) (c : He.SaysD faL fnL K) (e : exL K = true) (B : LamB K mg base lamL) : GvK P w K mg base (XRK K) 5 "surface_by" (.fn 2 none p_surface_by) := by
  obtain ⟨fd, F⟩ := c.def_ 20 (d := d_surface_by) rfl
  exact ⟨_, fd, ps_surface_by, rfl, fn_den (fun_nodef F) sc_surface_by (gl_cons ((ok_plain_in X G c e B).mono (by decide)) (gl_cons ((ok_led_by X G c e B).mono (by decide)) (gl_nil))) dn_surface_by, He.glo_ok X G (c.fact 20 (f := .glo "surface_by") rfl), F.kp, F.bindsN (ps := ps_surface_by) fun _ _ _ _ _ _ us hl => match us, hl with | [_, _], _ => rfl, rfl⟩
theorem ok_surface_of_word (X : K.In h) (G : h.Ns mainGlobals mg) (c : He.SaysD faL fnL K) (e : exL K = true) (B : LamB K mg base lamL) : GvK P w K mg base (XRK K) 6 "surface_of_word" (.fn 2 none p_surface_of_word) := by
  obtain ⟨fd, F⟩ := c.def_ 21 (d := d_surface_of_word) rfl
  exact ⟨_, fd, ps_surface_of_word, rfl, fn_den (fun_nodef F) sc_surface_of_word (gl_cons ((ok_need_rims X G c e B).mono (by decide)) (gl_cons ((ok_need_word X G c e B).mono (by decide)) (gl_cons ((ok_surface_by X G c e B).mono (by decide)) (gl_nil)))) dn_surface_of_word, He.glo_ok X G (c.fact 21 (f := .glo "surface_of_word") rfl), F.kp, F.bindsN (ps := ps_surface_of_word) fun _ _ _ _ _ _ us hl => match us, hl with | [_, _], _ => rfl, rfl⟩
theorem ok_is_piece_word (X : K.In h) (G : h.Ns mainGlobals mg) (c : He.SaysD faL fnL K) (e : exL K = true) (B : LamB K mg base lamL) : GvK P w K mg base (XRK K) 5 "is_piece_word" (.fn 2 none p_is_piece_word) := by
  obtain ⟨fd, F⟩ := c.def_ 22 (d := d_is_piece_word) rfl
  exact ⟨_, fd, ps_is_piece_word, rfl, fn_den (fun_nodef F) sc_is_piece_word (gl_cons ((ok_need_rims X G c e B).mono (by decide)) (gl_cons ((ok_is_word_from X G c e B).mono (by decide)) (gl_nil))) dn_is_piece_word, He.glo_ok X G (c.fact 22 (f := .glo "is_piece_word") rfl), F.kp, F.bindsN (ps := ps_is_piece_word) fun _ _ _ _ _ _ us hl => match us, hl with | [_, _], _ => rfl, rfl⟩
theorem ok_rims_along (X : K.In h) (G : h.Ns mainGlobals mg) (c : He.SaysD faL fnL K) (e : exL K = true) (B : LamB K mg base lamL) : GvK P w K mg base (XRK K) 6 "rims_along" (.fn 2 none p_rims_along) := by
  obtain ⟨fd, F⟩ := c.def_ 23 (d := d_rims_along) rfl
  exact ⟨_, fd, ps_rims_along, rfl, fn_den (fun_nodef F) sc_rims_along (gl_cons ((ok_need_rims X G c e B).mono (by decide)) (gl_cons ((ok_need_word X G c e B).mono (by decide)) (gl_cons ((ok_rims_of X G c e B).mono (by decide)) (gl_nil)))) dn_rims_along, He.glo_ok X G (c.fact 23 (f := .glo "rims_along") rfl), F.kp, F.bindsN (ps := ps_rims_along) fun _ _ _ _ _ _ us hl => match us, hl with | [_, _], _ => rfl, rfl⟩
theorem ok_are_alike_words (X : K.In h) (G : h.Ns mainGlobals mg) (c : He.SaysD faL fnL K) (e : exL K = true) (B : LamB K mg base lamL) : GvK P w K mg base (XRK K) 6 "are_alike_words" (.fn 3 none p_are_alike_words) := by
  obtain ⟨fd, F⟩ := c.def_ 24 (d := d_are_alike_words) rfl
  exact ⟨_, fd, ps_are_alike_words, rfl, fn_den (fun_nodef F) sc_are_alike_words (gl_cons ((ok_need_rims X G c e B).mono (by decide)) (gl_cons ((ok_need_word X G c e B).mono (by decide)) (gl_cons ((ok_surface_by X G c e B).mono (by decide)) (gl_nil)))) dn_are_alike_words, He.glo_ok X G (c.fact 24 (f := .glo "are_alike_words") rfl), F.kp, F.bindsN (ps := ps_are_alike_words) fun _ _ _ _ _ _ us hl => match us, hl with | [_, _, _], _ => rfl, rfl⟩
theorem ok__law_limits_right (X : K.In h) (G : h.Ns mainGlobals mg) (c : He.SaysD faL fnL K) (e : exL K = true) (B : LamB K mg base lamL) : GvK P w K mg base (XRK K) 25 "_law_limits_right" (.fn 1 (some 0) p__law_limits_right) := by
  obtain ⟨fd, F⟩ := c.def_ 25 (d := d__law_limits_right) rfl
  exact ⟨_, fd, ps__law_limits_right, rfl, fn_denL B (by decide +kernel) rfl (fun_nodef F) sc__law_limits_right (gl_cons ((ok__law_like X G c e B 20).mono (by decide)) (gl_cons ((ok_surface_of_word X G c e B).mono (by decide)) (gl_cons ((ok_is_piece_word X G c e B).mono (by decide)) (gl_cons ((ok_rims_along X G c e B).mono (by decide)) (gl_cons ((ok_are_alike_words X G c e B).mono (by decide)) (gl_cons ((ok__law_error X G c e).mono (Nat.zero_le _)) (gl_nil))))))) dn__law_limits_right, He.glo_ok X G (c.fact 25 (f := .glo "_law_limits_right") rfl), F.kp, F.bindsN (ps := ps__law_limits_right) fun _ _ _ _ _ _ us hl => match us, hl with | [_], _ => rfl, rfl⟩
theorem ok__law_roll (X : K.In h) (G : h.Ns mainGlobals mg) (c : He.SaysD faL fnL K) (e : exL K = true) (B : LamB K mg base lamL) : GvK P w K mg base (XRK K) 1 "_law_roll" (.fn 2 (some 0) p__law_roll) := by
  obtain ⟨fd, F⟩ := c.def_ 26 (d := d__law_roll) rfl
  exact ⟨_, fd, ps__law_roll, rfl, fn_den (fun_nodef F) sc__law_roll (gl_cons (gv_free (He.free_ok X G (c.fact 42 (f := .free "int") rfl))) (gl_nil)) dn__law_roll, He.glo_ok X G (c.fact 26 (f := .glo "_law_roll") rfl), F.kp, F.bindsN (ps := ps__law_roll) fun _ _ _ _ _ _ us hl => match us, hl with | [_, _], _ => rfl, rfl⟩
theorem ok__law_some (X : K.In h) (G : h.Ns mainGlobals mg) (c : He.SaysD faL fnL K) (e : exL K = true) (B : LamB K mg base lamL) : GvK P w K mg base (XRK K) 2 "_law_some" (.fn 2 (some 0) p__law_some) := by
  obtain ⟨fd, F⟩ := c.def_ 27 (d := d__law_some) rfl
  exact ⟨_, fd, ps__law_some, rfl, fn_den (fun_nodef F) sc__law_some (gl_cons ((ok__law_roll X G c e B).mono (by decide)) (gl_cons (gv_free (He.free_ok X G (c.fact 48 (f := .free "len") rfl))) (gl_nil))) dn__law_some, He.glo_ok X G (c.fact 27 (f := .glo "_law_some") rfl), F.kp, F.bindsN (ps := ps__law_some) fun _ _ _ _ _ _ us hl => match us, hl with | [_, _], _ => rfl, rfl⟩
theorem ok__law_word (X : K.In h) (G : h.Ns mainGlobals mg) (c : He.SaysD faL fnL K) (e : exL K = true) (B : LamB K mg base lamL) : GvK P w K mg base (XRK K) 3 "_law_word" (.fn 3 (some 0) p__law_word) := by
  obtain ⟨fd, F⟩ := c.def_ 28 (d := d__law_word) rfl
  exact ⟨_, fd, ps__law_word, rfl, fn_den (fun_nodef F) sc__law_word (gl_cons (gv_free (He.free_ok X G (c.fact 51 (f := .free "range") rfl))) (gl_cons ((ok__law_roll X G c e B).mono (by decide)) (gl_cons ((ok__law_some X G c e B).mono (by decide)) (gl_nil)))) dn__law_word, He.glo_ok X G (c.fact 28 (f := .glo "_law_word") rfl), F.kp, F.bindsN (ps := ps__law_word) fun _ _ _ _ _ _ us hl => match us, hl with | [_, _, _], _ => rfl, rfl⟩
theorem ok__law_along (X : K.In h) (G : h.Ns mainGlobals mg) (c : He.SaysD faL fnL K) (e : exL K = true) (B : LamB K mg base lamL) : GvK P w K mg base (XRK K) 1 "_law_along" (.fn 2 none p__law_along) := by
  obtain ⟨fd, F⟩ := c.def_ 29 (d := d__law_along) rfl
  exact ⟨_, fd, ps__law_along, rfl, fn_den (fun_nodef F) sc__law_along (gl_cons (gv_free (He.free_ok X G (c.fact 47 (f := .free "tuple") rfl))) (gl_nil)) dn__law_along, He.glo_ok X G (c.fact 29 (f := .glo "_law_along") rfl), F.kp, F.bindsN (ps := ps__law_along) fun _ _ _ _ _ _ us hl => match us, hl with | [_, _], _ => rfl, rfl⟩
theorem ok__law_glued (X : K.In h) (G : h.Ns mainGlobals mg) (c : He.SaysD faL fnL K) (e : exL K = true) (B : LamB K mg base lamL) : GvK P w K mg base (XRK K) 1 "_law_glued" (.fn 2 none p__law_glued) := by
  obtain ⟨fd, F⟩ := c.def_ 30 (d := d__law_glued) rfl
  exact ⟨_, fd, ps__law_glued, rfl, fn_den (fun_nodef F) sc__law_glued (gl_cons (gv_free (He.free_ok X G (c.fact 43 (f := .free "list") rfl))) (gl_cons (gv_free (He.free_ok X G (c.fact 51 (f := .free "range") rfl))) (gl_cons (gv_free (He.free_ok X G (c.fact 48 (f := .free "len") rfl))) (gl_cons (gv_free (He.free_ok X G (c.fact 47 (f := .free "tuple") rfl))) (gl_cons (gv_free (He.free_ok X G (c.fact 52 (f := .free "sorted") rfl))) (gl_nil)))))) dn__law_glued, He.glo_ok X G (c.fact 30 (f := .glo "_law_glued") rfl), F.kp, F.bindsN (ps := ps__law_glued) fun _ _ _ _ _ _ us hl => match us, hl with | [_, _], _ => rfl, rfl⟩
theorem ok__law_words_right (X : K.In h) (G : h.Ns mainGlobals mg) (c : He.SaysD faL fnL K) (e : exL K = true) (B : LamB K mg base lamL) : GvK P w K mg base (XRK K) 25 "_law_words_right" (.fn 1 (some 0) p__law_words_right) := by
  obtain ⟨fd, F⟩ := c.def_ 31 (d := d__law_words_right) rfl
  exact ⟨_, fd, ps__law_words_right, rfl, fn_denL B (by decide +kernel) rfl (fun_nodef F) sc__law_words_right (gl_cons ((ok__law_roll X G c e B).mono (by decide)) (gl_cons ((ok__law_word X G c e B).mono (by decide)) (gl_cons ((ok__law_along X G c e B).mono (by decide)) (gl_cons ((ok__law_some X G c e B).mono (by decide)) (gl_cons ((ok_is_piece_word X G c e B).mono (by decide)) (gl_cons ((ok_rims_along X G c e B).mono (by decide)) (gl_cons ((ok_surface_of_word X G c e B).mono (by decide)) (gl_cons ((ok__law_like X G c e B 20).mono (by decide)) (gl_cons (gv_free (He.free_ok X G (c.fact 48 (f := .free "len") rfl))) (gl_cons ((ok__law_glued X G c e B).mono (by decide)) (gl_cons ((ok__law_error X G c e).mono (Nat.zero_le _)) (gl_cons ((ok_are_alike_words X G c e B).mono (by decide)) (gl_nil))))))))))))) dn__law_words_right, He.glo_ok X G (c.fact 31 (f := .glo "_law_words_right") rfl), F.kp, F.bindsN (ps := ps__law_words_right) fun _ _ _ _ _ _ us hl => match us, hl with | [_], _ => rfl, rfl⟩
theorem ok__law_joined_right (X : K.In h) (G : h.Ns mainGlobals mg) (c : He.SaysD faL fnL K) (e : exL K = true) (B : LamB K mg base lamL) : GvK P w K mg base (XRK K) 23 "_law_joined_right" (.fn 1 (some 0) p__law_joined_right) := by
  obtain ⟨fd, F⟩ := c.def_ 32 (d := d__law_joined_right) rfl
  exact ⟨_, fd, ps__law_joined_right, rfl, fn_den (fun_nodef F) sc__law_joined_right (gl_cons ((ok__law_roll X G c e B).mono (by decide)) (gl_cons ((ok__law_word X G c e B).mono (by decide)) (gl_cons ((ok__law_like X G c e B 20).mono (by decide)) (gl_cons ((ok__law_along X G c e B).mono (by decide)) (gl_cons ((ok_are_alike_words X G c e B).mono (by decide)) (gl_cons ((ok__law_some X G c e B).mono (by decide)) (gl_nil))))))) dn__law_joined_right, He.glo_ok X G (c.fact 32 (f := .glo "_law_joined_right") rfl), F.kp, F.bindsN (ps := ps__law_joined_right) fun _ _ _ _ _ _ us hl => match us, hl with | [_], _ => rfl, rfl⟩
theorem ok_law (X : K.In h) (G : h.Ns mainGlobals mg) (c : He.SaysD faL fnL K) (e : exL K = true) (B : LamB K mg base lamL) : GvK P w K mg base (XRK K) 26 "law" (.fn 1 none p_law) := by
  obtain ⟨fd, F⟩ := c.def_ 33 (d := d_law) rfl
  exact ⟨_, fd, ps_law, rfl, fn_den (fun_nodef F) sc_law (gl_cons ((ok__law_cup X G c e B).mono (by decide)) (gl_cons (gv_free (He.free_ok X G (c.fact 51 (f := .free "range") rfl))) (gl_cons ((ok__law_limits_right X G c e B).mono (by decide)) (gl_cons ((ok__law_words_right X G c e B).mono (by decide)) (gl_cons ((ok__law_joined_right X G c e B).mono (by decide)) (gl_nil)))))) dn_law, He.glo_ok X G (c.fact 33 (f := .glo "law") rfl), F.kp, F.bindsN (ps := ps_law) fun _ _ _ _ _ _ us hl => match us, hl with | [_], _ => rfl, rfl⟩
theorem fk_law {fd : FuncData} (X : K.In h) (G : h.Ns mainGlobals mg) (c : He.SaysD faL fnL K) (e : exL K = true) (B : LamB K mg base lamL) (F : FunD K "law" "law" (defArgs st_law) (defBody st_law) (defScope st_law) [] [] (He.ga K "law") fd) : FnOk P w K mg base (L2N.CX P w) 26 (He.ga K "law") fd ps_law (spP K (XRK K) 1 p_law) := fn_den (fun_nodef F) sc_law (gl_cons ((ok__law_cup X G c e B).mono (by decide)) (gl_cons (gv_free (He.free_ok X G (c.fact 51 (f := .free "range") rfl))) (gl_cons ((ok__law_limits_right X G c e B).mono (by decide)) (gl_cons ((ok__law_words_right X G c e B).mono (by decide)) (gl_cons ((ok__law_joined_right X G c e B).mono (by decide)) (gl_nil)))))) dn_law
end
end La
set_option Elab.async false
set_option linter.all false
set_option maxRecDepth 100000
set_option maxHeartbeats 1000000
/-! Kb: what many laws share. -/
namespace La
open PySem L2 PyProof.Rows Pu
def wholeD (v : D) (lo hi : Int) : Bool := match v with
  | .int i => decide (lo ≤ i) && decide (i ≤ hi)
  | _ => false
theorem is_whole (v : D) (lo hi : Int) : resV (p_is_whole [.frz v, .frz (.int lo), .frz (.int hi)]) = some (.fz (.bool (wholeD v lo hi))) := by
  refine pf_ans ?_
  unfold m_is_whole
  cases v <;> simp [wholeD]
  by_cases h : lo ≤ ‹Int› <;> simp [h] <;> omega
def tupD (v : D) (lo hi : Int) : Bool := match v with
  | .tuple xs => decide (lo ≤ xs.length) && decide ((xs.length : Int) ≤ hi)
  | _ => false
theorem is_tuple_of (v : D) (lo hi : Int) : resV (p_is_tuple_of [.frz v, .frz (.int lo), .frz (.int hi)]) = some (.fz (.bool (tupD v lo hi))) := by
  refine pf_ans ?_
  unfold m_is_tuple_of
  cases v <;> simp [tupD]
  rename_i xs
  by_cases h : lo ≤ xs.length <;> simp [h] <;> omega
def tI (ns : List Int) : D := .tuple (ns.map PyData.int)
def rngI (n : Int) : List Int := (List.range n.toNat).map fun i => ((i : Nat) : Int)
theorem map_mid {α β : Type} {f : α → β} : ∀ {l : List α} {a : List β} {x : β} {b : List β}, l.map f = a ++ x :: b → ∃ (a' : List α) (x' : α) (b' : List α), l = a' ++ x' :: b' ∧ a = a'.map f ∧ x = f x' ∧ b = b'.map f := fun {l a x b} h => by
  obtain ⟨l1, l2, rfl, h1, h2⟩ := List.map_eq_append_iff.mp h
  obtain ⟨y, l3, rfl, h3, h4⟩ := List.map_eq_cons_iff.mp h2
  exact ⟨l1, y, l3, rfl, h1.symm, h3.symm, h4.symm⟩
theorem map_inj {α β : Type} {f : α → β} (hf : ∀ a b, f a = f b → a = b) : ∀ {l m : List α}, l.map f = m.map f → l = m
  | [], [], _ => rfl
  | [], _ :: _, h => by simp at h
  | _ :: _, [], h => by simp at h
  | a :: l, b :: m, h => by
    simp only [List.map_cons, List.cons.injEq] at h
    rw [hf _ _ h.1, map_inj hf h.2]
theorem int_inj : ∀ a b : Int, PyData.int a = PyData.int b → a = b := fun a b h => by cases h; rfl
theorem tI_inj : ∀ a b, tI a = tI b → a = b := fun a b h => by
  unfold tI at h
  simp only [PyData.tuple.injEq] at h
  exact map_inj int_inj h
theorem add_ints {ns ms : List Int} (h : ns.length + ms.length ≤ lim) : fAdd (.list (ns.map PyData.int)) (.list (ms.map PyData.int)) = some (.fr ((ns ++ ms).map PyData.int)) := by
  show (if (ns.map PyData.int).length + (ms.map PyData.int).length ≤ lim then some (RV.fr (ns.map PyData.int ++ ms.map PyData.int)) else none) = _
  rw [List.length_map, List.length_map, if_pos h, List.map_append]
def Cup (xs : List D) : Prop := ∃ a b : Int, xs = [.int a, .int b] ∧ 0 ≤ a ∧ 0 ≤ b
@[simp] theorem ixN_20 : ixN 2 0 = some 0 := rfl
@[simp] theorem ixN_21 : ixN 2 1 = some 1 := rfl
theorem mod_ii {i j : Int} (h : 0 < j) : fMod (.int i) (.int j) = some (.fz (.int (i % j))) := if_pos h
theorem div_ii {i j : Int} (h : 0 < j) (h2 : j < 1073741824) : fDiv (.int i) (.int j) = some (.fz (.int (i / j))) := if_pos ⟨h, h2⟩
theorem mul_small {i j : Int} (h0 : -18446744073709551616 < j) (h : j < 18446744073709551616) : fMul (.int i) (.int j) = some (.fz (.int (i * j))) := by
  show (if mulOk i j = true then some (RV.fz (.int (i * j))) else none) = _
  rw [if_pos]
  unfold mulOk
  rw [decide_eq_true h0, decide_eq_true h]
  simp
theorem roll_ok {xs : List D} (hc : Cup xs) {many : Int} (h0 : 0 < many) (h1 : many < 1073741824) : ∃ r ys rest, p__law_roll [.io xs, .frz (.int many)] = .ok (.fz (.int r)) (some (.io ys) :: rest) ∧ Cup ys ∧ 0 ≤ r ∧ r < many := by
  obtain ⟨a, b, rfl, ha, hb⟩ := hc
  have z : Wd (m__law_roll [some (.io [.int a, .int b]), some (.frz (.int many)), none]) fun f ρ => ∃ r ys rest, f = .ret (.fz (.int r)) ∧ ρ = some (.io ys) :: rest ∧ Cup ys ∧ 0 ≤ r ∧ r < many := by
    unfold m__law_roll
    simp [mod_ii h0, div_ii h0 h1, mul_small, mod_ii, div_ii]
    refine ⟨fun _ => ⟨⟨_, _, rfl, Int.ediv_nonneg ha (by omega), hb⟩, Int.emod_nonneg _ (by omega), Int.emod_lt_of_pos _ h0⟩,
      fun _ => ⟨⟨_, _, rfl, ha, Int.emod_nonneg _ (by omega)⟩, Int.emod_nonneg _ (by omega), Int.emod_lt_of_pos _ h0⟩⟩
  obtain ⟨f, ρ, e, r, ys, rest, rfl, rfl, h2, h3, h4⟩ := z.get
  exact ⟨r, ys, rest, pf_ret e, h2, h3, h4⟩
/-- a call of the roll -/
theorem wd_roll {ρ : Ev} {i : Nat} {hs : List Hd} {xs : List D} {many : Int} {Q : Hd → Ev → Prop} (hc : Cup xs) (h0 : 0 < many) (h1 : many < 1073741824) (h : ∀ r ys, Cup ys → 0 ≤ r → r < many → Q (.v (.fz (.int r))) (setAt i ys ρ)) :
    Wd (callBack (.s i :: hs) [.io xs, .frz (.int many)] ρ (p__law_roll [.io xs, .frz (.int many)])) Q := by
  obtain ⟨r, ys, rest, e, h2, h3, h4⟩ := roll_ok hc h0 h1
  rw [e]
  exact Wd.mk (h r ys h2 h3 h4)
theorem cup_ok (ns : List Int) (hl : ns.length ≤ 63) : ∃ ys, Cup ys ∧ resV (p__law_cup [.frz (.list (dInts ns))]) = some (.fr ys) := by
  have z : Wd (m__law_cup [some (.frz (.list (dInts ns))), none]) fun f ρ => ∃ ys, f = .ret (.fr ys) ∧ Cup ys := by
    unfold m__law_cup dInts
    have ep : fPow (.int 10) (.int 18) = some (.fz (.int 1000000000000000000)) := by rfl
    obtain ⟨m, t, et⟩ : ∃ m t, ns ++ [0] = m :: t := by cases ns with
      | nil => exact ⟨_, _, rfl⟩
      | cons a l => exact ⟨_, _, rfl⟩
    have e1 : fAdd (.list (ns.map PyData.int)) (.list [.int 0]) = some (.fr (.int m :: t.map PyData.int)) := by
      have z := add_ints (ns := ns) (ms := [0]) (by rw [List.length_singleton]; show ns.length + 1 ≤ 16777216; omega)
      rw [et] at z
      exact z
    have ea : fAbs [.int m] = some (.fz (.int (if m < 0 then -m else m))) := rfl
    have hm : 0 ≤ (if m < 0 then -m else m) := by split <;> omega
    generalize (if m < 0 then -m else m) = a at ea hm
    simp [ep, ea, fLst, e1, lim, div_ii, mul_small, mod_ii]
    refine ⟨fun _ => ⟨_, _, rfl, Int.ediv_nonneg hm (by omega), Int.emod_nonneg _ (by omega)⟩, fun _ => ⟨_, _, rfl, by omega, Int.emod_nonneg _ (by omega)⟩⟩
  obtain ⟨f, ρ, e, ys, rfl, h⟩ := z.get
  exact ⟨ys, h, by rw [show p__law_cup [.frz (.list (dInts ns))] = .ok (.fr ys) ρ from pf_ret e]; rfl⟩
theorem rngI_succ (k : Nat) : rngI ((k + 1 : Nat) : Int) = rngI k ++ [(k : Int)] := by
  unfold rngI
  rw [Int.toNat_natCast, Int.toNat_natCast, List.range_succ, List.map_append]
  rfl
theorem mem_rngI {n x : Int} : x ∈ rngI n ↔ 0 ≤ x ∧ x < n := by
  unfold rngI
  rw [List.mem_map]
  constructor
  · rintro ⟨i, hi, rfl⟩
    have := List.mem_range.mp hi
    omega
  · rintro ⟨h1, h2⟩
    exact ⟨x.toNat, List.mem_range.mpr (by omega), by omega⟩
theorem rg1 {n : Int} (h0 : 0 ≤ n) (h : n ≤ 1000000) : fRange1 [.int n] = some ((rngI n).map PyData.int) := by
  show (if rgOk 0 n = true then some (rgD 0 n) else none) = _
  have e : rgOk 0 n = true := by
    unfold rgOk
    simp
    omega
  rw [if_pos e]
  unfold rgD rngI
  simp
/-- the k-th of the range -/
theorem rng_at {n : Int} {dn rest : List D} {d : D} (h : (rngI n).map PyData.int = dn ++ d :: rest) : d = .int (dn.length : Nat) ∧ (dn.length : Int) < n := by
  have e : ((rngI n).map PyData.int)[dn.length]? = some d := by rw [h]; simp
  unfold rngI at e
  rw [List.map_map, List.getElem?_map] at e
  obtain ⟨i, hi, e⟩ := Option.map_eq_some_iff.mp e
  obtain ⟨h1, h2⟩ := List.getElem?_eq_some_iff.mp hi
  rw [List.getElem_range] at h2
  rw [List.length_range] at h1
  subst h2
  exact ⟨e.symm, by omega⟩
theorem ixN_of {n : Nat} {i : Int} (h0 : 0 ≤ i) (h : i < n) : ixN n i = some i.toNat := by
  unfold ixN
  rw [if_pos h0, if_pos h]
theorem add_tt {xs ys : List D} (h : xs.length + ys.length ≤ 1000) : fAdd (.tuple xs) (.tuple ys) = some (.fz (.tuple (xs ++ ys))) := by
  show (if xs.length + ys.length ≤ lim then some (RV.fz (.tuple (xs ++ ys))) else none) = _
  rw [if_pos (Nat.le_trans h (by decide))]
theorem wd_compAll {vs : List Nat} {mi : M (List D)} {tg : Tg} {elt : M Hd} {ρ : Ev} {Q : RV → Ev → Prop} (b : D → Bool) (h : Wd (mi ρ) fun ds ρ1 => ds.length ≤ lim ∧ (∀ d ∈ ds, Wd (elem tg (mC (.bool true)) elt d (wipeE vs ρ1)) fun o ρ3 => o = some (.bool (b d)) ∧ wipeE vs ρ3 = wipeE vs ρ1) ∧ Q (.fz (.bool (ds.all b))) ρ1) :
    Wd (mComp vs mi tg (mC (.bool true)) elt ρ) fun a ρ => opP (rd a ρ) fun d => opP (fAll [d]) fun r => Q r ρ := by
  have z := wd_all (elt := elt) (tg := tg) (vs := vs) (mi := mi) (ρ := ρ) b (Q := fun h ρ => match h with
    | .v r => Q r ρ
    | _ => False) h
  simpa using z
theorem wd_walk1 {f : List D → Option (List D)} {m : M Hd} {v : D} {z : List D} {ρ : Ev} (hm : Wd (mEsc m ρ) fun h ρ1 => h = .v (.fz v) ∧ ρ1 = ρ) (er : f [v] = some z) : Wd (mWalk f [mEsc m] ρ) fun a ρ' => a = z ∧ ρ' = ρ := by
  rw [wd_mWalk, x_mArgs_cons, wd_bind]
  refine hm.imp fun h ρ1 ⟨e1, e2⟩ => ?_
  subst e1; subst e2
  rw [x_mArgs_nil, bind_ok, wd_ok, opP_fzs, x_fzs_nil, opP_some, er, opP_some]
  exact ⟨rfl, rfl⟩
theorem rng_len {n : Int} (h : n ≤ 1000) : ((rngI n).map PyData.int).length ≤ lim := by
  rw [List.length_map]
  unfold rngI
  rw [List.length_map, List.length_range]
  show n.toNat ≤ 16777216
  omega
end La
set_option Elab.async false
set_option linter.all false
set_option maxRecDepth 100000
set_option maxHeartbeats 2000000
/-! Kl: alike (every law's own judge). -/
namespace La
open PySem L2 PyProof.Rows Pu
/-! ### alike -/
def Lk (k : Nat) (d : D) : Prop := resV (p__law_like k [.frz d, .frz d]) = some (.fz (.bool true))
theorem like_eq (k : Nat) : p__law_like (k + 1) = pfOf 5 (m__law_like (fun _ => p__law_like k) 0) := rfl
theorem sort_b (b : Bool) : resV (p__law_sort [.frz (.bool b)]) = some (.fz (.int 1)) := by cases b <;> rfl
theorem sort_i (i : Int) : resV (p__law_sort [.frz (.int i)]) = some (.fz (.int 2)) := by rfl
theorem sort_t (xs : List D) : resV (p__law_sort [.frz (.tuple xs)]) = some (.fz (.int 4)) := by rfl
theorem sort_l (xs : List D) : resV (p__law_sort [.frz (.list xs)]) = some (.fz (.int 5)) := by rfl
theorem lk_b {k : Nat} {b : Bool} : Lk (k + 1) (.bool b) := by
  unfold Lk
  rw [like_eq]
  refine pf_ans ?_
  unfold m__law_like
  cases b <;> simp [sort_b] <;> rfl
theorem in45_1 : fIn false (.int 1) (.tuple [.int 4, .int 5]) = some (.fz (.bool false)) := by rfl
theorem in45_2 : fIn false (.int 2) (.tuple [.int 4, .int 5]) = some (.fz (.bool false)) := by rfl
theorem in45_4 : fIn false (.int 4) (.tuple [.int 4, .int 5]) = some (.fz (.bool true)) := by rfl
theorem in45_5 : fIn false (.int 5) (.tuple [.int 4, .int 5]) = some (.fz (.bool true)) := by rfl
theorem tup45 : fTup [.int 4, .int 5] = some (.fz (.tuple [.int 4, .int 5])) := by rfl
theorem lk_i {k : Nat} {i : Int} : Lk (k + 1) (.int i) := by
  unfold Lk
  rw [like_eq]
  refine pf_ans ?_
  unfold m__law_like
  simp [sort_i, in45_2, tup45]
theorem pairs_self : ∀ xs : List D, pairs xs xs = xs.map fun x => .tuple [x, x]
  | [] => rfl
  | x :: xs => by simp [pairs, pairs_self xs]
theorem fm_none {α β : Type} (g : α → D) (l : List α) : List.filterMap ((fun _ => (none : Option β)) ∘ g) l = [] := by
  induction l with
  | nil => rfl
  | cons x l ih => rw [List.filterMap_cons]; exact ih
theorem lk_seq {k : Nat} {xs : List D} (h : ∀ x ∈ xs, Lk k x) (hl : xs.length ≤ lim) : Lk (k + 1) (.tuple xs) ∧ Lk (k + 1) (.list xs) := by
  have e0 : fEq (.list []) (.list []) = some (.fz (.bool true)) := by rfl
  have l0 : fLst [] = some (.fr []) := by rfl
  have l1 : fZip [.tuple xs, .tuple xs] = some (xs.map fun x => .tuple [x, x]) := by rw [← pairs_self]; rfl
  have l2 : fZip [.list xs, .list xs] = some (xs.map fun x => .tuple [x, x]) := by rw [← pairs_self]; rfl
  constructor
  · unfold Lk
    rw [like_eq]
    refine pf_ans ?_
    unfold m__law_like
    simp [sort_t, in45_4, tup45]
    refine wd_compP (fun _ => none) ?_
    simp [l1]
    refine ⟨hl, fun x hx => ?_, ?_⟩
    · have z : resV (p__law_like k [.frz x, .frz x]) = some (.fz (.bool true)) := h x hx
      simp [wipeE, over, z]
    · simp [l0, fm_none, e0]
  · unfold Lk
    rw [like_eq]
    refine pf_ans ?_
    unfold m__law_like
    simp [sort_l, in45_5, tup45]
    refine wd_compP (fun _ => none) ?_
    simp [l2]
    refine ⟨hl, fun x hx => ?_, ?_⟩
    · have z : resV (p__law_like k [.frz x, .frz x]) = some (.fz (.bool true)) := h x hx
      simp [wipeE, over, z]
    · simp [l0, fm_none, e0]
theorem lk_tI {k : Nat} {e : List Int} (h : e.length ≤ 1000) : Lk (k + 2) (tI e) := (lk_seq (fun x hx => by
  obtain ⟨i, _, rfl⟩ := List.mem_map.mp hx
  exact lk_i) (by simp; show e.length ≤ 16777216; omega)).1
theorem sort_n : resV (p__law_sort [.frz .none]) = some (.fz (.int 0)) := by rfl
theorem sort_s (x : Str) : resV (p__law_sort [.frz (.str x)]) = some (.fz (.int 3)) := by rfl
theorem in45_0 : fIn false (.int 0) (.tuple [.int 4, .int 5]) = some (.fz (.bool false)) := by rfl
theorem in45_3 : fIn false (.int 3) (.tuple [.int 4, .int 5]) = some (.fz (.bool false)) := by rfl
theorem eq_same {d : D} (h : d.depth ≤ 64) (e : PyData.eqv d d = true) : fEq d d = some (.fz (.bool true)) := by
  unfold fEq
  rw [if_pos (show small d d = true from decide_eq_true (Nat.le_trans (Nat.min_le_left _ _) h)), e]
theorem lk_n {k : Nat} : Lk (k + 1) .none := by
  unfold Lk
  rw [like_eq]
  refine pf_ans ?_
  unfold m__law_like
  have e : fEq .none .none = some (.fz (.bool true)) := by rfl
  simp [sort_n, in45_0, tup45, e]
theorem lk_s {k : Nat} {x : Str} : Lk (k + 1) (.str x) := by
  unfold Lk
  rw [like_eq]
  refine pf_ans ?_
  unfold m__law_like
  have e : fEq (.str x) (.str x) = some (.fz (.bool true)) := eq_same (by simp [PyData.depth]) (by simp [PyData.eqv])
  simp [sort_s, in45_3, tup45, e]
theorem lk_t {k : Nat} {xs : List D} (h : ∀ x ∈ xs, Lk k x) (hl : xs.length ≤ lim) : Lk (k + 1) (.tuple xs) := (lk_seq h hl).1
theorem lk_l {k : Nat} {xs : List D} (h : ∀ x ∈ xs, Lk k x) (hl : xs.length ≤ lim) : Lk (k + 1) (.list xs) := (lk_seq h hl).2
theorem lk_nil {k : Nat} : ∀ x ∈ ([] : List D), Lk k x := fun x h => absurd h (by simp)
theorem lk_cons {k : Nat} {x : D} {xs : List D} (h : Lk k x) (g : ∀ y ∈ xs, Lk k y) : ∀ y ∈ x :: xs, Lk k y := fun y hy => by
  rcases List.mem_cons.mp hy with rfl | hy
  · exact h
  · exact g y hy
theorem tup_list (xs : List D) : fTuple [.list xs] = some (.fz (.tuple xs)) := rfl
end La
set_option Elab.async false
set_option linter.all false
set_option maxRecDepth 100000
set_option maxHeartbeats 1000000
/-! Ks: sorting and comparing data of whole numbers; parts of surfaces as data. -/
namespace La
open PySem L2 PyProof.Rows Pu
theorem lim_of {n : Nat} (h : n ≤ 16777216) : n ≤ lim := h
mutual
theorem eqv_tree : ∀ (d e : D), itree d = true → itree e = true → (PyData.eqv d e = true ↔ d = e)
  | .int i, e, _, he => by
    cases e with
    | int j => simp [PyData.eqv]
    | tuple ys => simp [PyData.eqv]
    | _ => rw [itree] at he <;> first | cases he | (intros; simp_all)
  | .tuple xs, e, hd, he => by
    cases e with
    | tuple ys =>
      rw [itree] at hd he
      rw [PyData.eqv, eqvAll_tree xs ys hd he, PyData.tuple.injEq]
    | int j => simp [PyData.eqv]
    | _ => rw [itree] at he <;> first | cases he | (intros; simp_all)
  | .none, _, hd, _ => by rw [itree] at hd <;> first | cases hd | (intros; simp_all)
  | .bool _, _, hd, _ => by rw [itree] at hd <;> first | cases hd | (intros; simp_all)
  | .str _, _, hd, _ => by rw [itree] at hd <;> first | cases hd | (intros; simp_all)
  | .list _, _, hd, _ => by rw [itree] at hd <;> first | cases hd | (intros; simp_all)
  | .dict _, _, hd, _ => by rw [itree] at hd <;> first | cases hd | (intros; simp_all)
theorem eqvAll_tree : ∀ (xs ys : List D), itrees xs = true → itrees ys = true → (PyData.eqvAll xs ys = true ↔ xs = ys)
  | [], [], _, _ => by simp [PyData.eqvAll]
  | [], _ :: _, _, _ => by simp [PyData.eqvAll]
  | _ :: _, [], _, _ => by simp [PyData.eqvAll]
  | x :: xs, y :: ys, hd, he => by
    rw [itrees, Bool.and_eq_true] at hd he
    rw [PyData.eqvAll, Bool.and_eq_true, eqv_tree x y hd.1 he.1, eqvAll_tree xs ys hd.2 he.2, List.cons.injEq]
end
theorem isort_uniq {l l' : List D} (hp : l.Perm l') (ht : ∀ d ∈ l, itree d = true) (al : ∀ d ∈ l, ∀ e ∈ l, PySem.W.alike d e = true) : isort leD l = isort leD l' := by
  have p1 := isort_perm (le := leD) l
  have p2 := isort_perm (le := leD) l'
  refine List.Perm.eq_of_pairwise (le := fun a b => leD a b = true) (fun a b ha hb h1 h2 => ?_) (isort_sorted leD_total l) (isort_sorted leD_total l') (p1.trans (hp.trans p2.symm))
  have ma := p1.mem_iff.mp ha
  have mb := hp.mem_iff.mpr (p2.mem_iff.mp hb)
  unfold leD at h1 h2
  have z := dataLt_tri (by simpa using h2) (by simpa using h1)
  exact (toks_inj a b [] [] (ht a ma) (ht b mb) (al a ma b mb) (by rw [z])).1
/-! ### whole numbers -/
theorem leD_ii {a b : Int} : leD (.int a) (.int b) = decide (a ≤ b) := by
  unfold leD
  rw [PySem.W.dataLt_int]
  by_cases h : a ≤ b
  · rw [decide_eq_true h, decide_eq_false (by omega)]; rfl
  · rw [decide_eq_false h, decide_eq_true (by omega)]; rfl
theorem le_total : PySem.W.TotalLe (fun a b : Int => leD (.int a) (.int b)) := ⟨fun a b c h1 h2 => by
    rw [leD_ii] at *
    simp at *
    omega, fun a b => by
    rw [leD_ii, leD_ii]
    simp
    omega⟩
def sortI (ns : List Int) : List Int := isort (fun a b => leD (.int a) (.int b)) ns
theorem sortI_up (ns : List Int) : (sortI ns).Pairwise (· ≤ ·) := (isort_sorted le_total ns).imp fun {a b} h => by
  rw [leD_ii] at h
  simpa using h
theorem sortI_perm (ns : List Int) : (sortI ns).Perm ns := isort_perm ns
theorem up_unique {a b : List Int} (p : a.Perm b) (ha : a.Pairwise (· ≤ ·)) (hb : b.Pairwise (· ≤ ·)) : a = b := List.Perm.eq_of_pairwise (fun x y _ _ h1 h2 => by omega) ha hb p
theorem sortI_uniq {a b : List Int} (p : a.Perm b) : sortI a = sortI b := up_unique ((sortI_perm a).trans (p.trans (sortI_perm b).symm)) (sortI_up a) (sortI_up b)
/-- what is sorted, and has the same numbers -/
theorem sortI_is {a b : List Int} (p : a.Perm b) (hb : b.Pairwise (· < ·)) : sortI a = b := up_unique ((sortI_perm a).trans p) (sortI_up a) (hb.imp fun h => by omega)
theorem sortsOk_ints {ns : List Int} (h : ns.length ≤ 16777216) : sortsOk (ns.map PyData.int) = true := by
  unfold sortsOk
  simp [PySem.W.alike, PyData.depth]
  exact h
theorem sorted_ints {ns : List Int} (h : ns.length ≤ 16777216) : fSorted [.list (ns.map PyData.int)] = some (.fr ((sortI ns).map PyData.int)) := by
  show (if sortsOk (ns.map PyData.int) = true then some (RV.fr (isort leD (ns.map PyData.int))) else none) = _
  rw [if_pos (sortsOk_ints h), sortI, isort_map]
theorem sorted_intsT {ns : List Int} (h : ns.length ≤ 16777216) : fSorted [tI ns] = some (.fr ((sortI ns).map PyData.int)) := by
  show (if sortsOk (ns.map PyData.int) = true then some (RV.fr (isort leD (ns.map PyData.int))) else none) = _
  rw [if_pos (sortsOk_ints h), sortI, isort_map]
/-! ### parts -/
abbrev Pt := List Int × List Int × Int
def partE (p : Pt) : D := .tuple [tI p.1, tI p.2.1, .int p.2.2]
theorem partE_tree (p : Pt) : itree (partE p) = true := by
  unfold partE tI
  simp [itree, itrees, itrees_ints]
theorem partE_alike (p q : Pt) : PySem.W.alike (partE p) (partE q) = true := by
  unfold partE tI
  simp [PySem.W.alike, PySem.W.alikeAll, alike_ints]
theorem partE_depth (p : Pt) : (partE p).depth ≤ 4 := by
  unfold partE tI
  simp [PyData.depth, PyData.depthAll, depth_ints]
theorem partE_inj : ∀ a b, partE a = partE b → a = b := fun a b h => by
  unfold partE at h
  simp only [PyData.tuple.injEq, List.cons.injEq, PyData.int.injEq, and_true] at h
  exact Prod.ext (tI_inj _ _ h.1) (Prod.ext (tI_inj _ _ h.2.1) h.2.2)
def sortP (ps : List Pt) : List Pt := isort (fun a b => leD (partE a) (partE b)) ps
theorem sortP_perm (ps : List Pt) : (sortP ps).Perm ps := isort_perm ps
theorem sortP_map (ps : List Pt) : (sortP ps).map partE = isort leD (ps.map partE) := isort_map partE ps
theorem sortP_uniq {a b : List Pt} (p : a.Perm b) : sortP a = sortP b := by
  refine map_inj partE_inj ?_
  rw [sortP_map, sortP_map]
  refine isort_uniq (p.map _) (fun d hd => ?_) fun d hd e he => ?_
  · obtain ⟨x, _, rfl⟩ := List.mem_map.mp hd
    exact partE_tree x
  · obtain ⟨x, _, rfl⟩ := List.mem_map.mp hd
    obtain ⟨y, _, rfl⟩ := List.mem_map.mp he
    exact partE_alike x y
theorem sortsOk_parts {ps : List Pt} (h : ps.length ≤ 16777216) : sortsOk (ps.map partE) = true := by
  unfold sortsOk
  simp only [Bool.and_eq_true, List.all_eq_true, decide_eq_true_eq, Bool.or_eq_true, List.length_map]
  refine ⟨⟨⟨fun d hd e he => ?_, fun d hd => ?_⟩, h⟩, .inl fun d hd => ?_⟩
  · obtain ⟨a, _, rfl⟩ := List.mem_map.mp hd
    obtain ⟨b, _, rfl⟩ := List.mem_map.mp he
    exact partE_alike a b
  · obtain ⟨a, _, rfl⟩ := List.mem_map.mp hd
    have := partE_depth a
    omega
  · obtain ⟨a, _, rfl⟩ := List.mem_map.mp hd
    rfl
theorem sorted_parts {ps : List Pt} (h : ps.length ≤ 16777216) : fSorted [.list (ps.map partE)] = some (.fr ((sortP ps).map partE)) := by
  show (if sortsOk (ps.map partE) = true then some (RV.fr (isort leD (ps.map partE))) else none) = _
  rw [if_pos (sortsOk_parts h), sortP_map]
/-- sorted already -/
theorem sortP_id {ps : List Pt} (h : ps.Pairwise fun a b => leD (partE a) (partE b) = true) : sortP ps = ps := by
  refine map_inj partE_inj ?_
  rw [sortP_map]
  refine List.Perm.eq_of_pairwise (le := fun a b => leD a b = true) (fun a b ha hb h1 h2 => ?_) (isort_sorted leD_total _) (List.pairwise_map.mpr h) (isort_perm _)
  have ma := (isort_perm (le := leD) (ps.map partE)).mem_iff.mp ha
  obtain ⟨x, _, rfl⟩ := List.mem_map.mp ma
  obtain ⟨y, _, rfl⟩ := List.mem_map.mp hb
  unfold leD at h1 h2
  have z := dataLt_tri (by simpa using h2) (by simpa using h1)
  exact (toks_inj _ _ [] [] (partE_tree x) (partE_tree y) (partE_alike x y) (by rw [z])).1
/-! ### surfaces -/
structure Sf where
  m : Int
  n : Int
  ps : List Pt
  sh : List Int
def surfE (s : Sf) : D := .tuple [.int s.m, .int s.n, .tuple (s.ps.map partE), tI s.sh]
theorem surfE_tree (s : Sf) : itree (surfE s) = true := by
  have h : ∀ ps : List Pt, itrees (ps.map partE) = true := fun ps => by
    induction ps with
    | nil => simp [itrees]
    | cons p ps ih => rw [List.map_cons, itrees, partE_tree, ih]; rfl
  unfold surfE tI
  simp [itree, itrees, itrees_ints, h]
theorem surfE_depth (s : Sf) : (surfE s).depth ≤ 8 := by
  have h : ∀ ps : List Pt, PyData.depthAll (ps.map partE) ≤ 4 := fun ps => by
    induction ps with
    | nil => simp [PyData.depthAll]
    | cons p ps ih =>
      rw [List.map_cons, PyData.depthAll]
      have := partE_depth p
      omega
  have := h s.ps
  unfold surfE tI
  simp [PyData.depth, PyData.depthAll, depth_ints]
  omega
theorem eq_surf (s t : Sf) : fEq (surfE s) (surfE t) = some (.fz (.bool (PyData.eqv (surfE s) (surfE t)))) := by
  unfold fEq
  rw [if_pos (show small (surfE s) (surfE t) = true from decide_eq_true (Nat.le_trans (Nat.min_le_left _ _) (by have := surfE_depth s; omega)))]
theorem eqv_surf (s t : Sf) : PyData.eqv (surfE s) (surfE t) = true ↔ surfE s = surfE t := eqv_tree _ _ (surfE_tree s) (surfE_tree t)
end La
set_option Elab.async false
set_option linter.all false
set_option maxRecDepth 100000
set_option maxHeartbeats 400000
/-! Kp1: pieces; a surface led by a piece, walked. -/
namespace La
open PySem L2 PyProof.Rows Pu
inductive Kn where
  | st | en | jo | pa | sw | tu
deriving DecidableEq
def kS : Kn → Str
  | .st => "start"
  | .en => "end"
  | .jo => "join"
  | .pa => "part"
  | .sw => "swap"
  | .tu => "turn"
abbrev Pc := Kn × Int
def pcD (q : Pc) : D := .tuple [.str (kS q.1), .int q.2]
def shiftI (lot : List Int) (b d : Int) : List Int := lot.map fun x => if b ≤ x then x + d else x
def exchI (lot : List Int) (a : Int) : List Int := sortI (lot.map fun x => if x = a then a + 1 else if x = a + 1 then a else x)
def withoutI (lot : List Int) (a : Int) : List Int := shiftI (lot.filter fun x => !(x == a)) a (-1)
def partedI (lot : List Int) (a : Int) : List Int := if a ∈ lot then sortI (shiftI lot (a + 1) 1 ++ [a + 1]) else shiftI lot (a + 1) 1
def endP (a : Int) (p : Pt) : Option Pt := if p.1 = [] ∧ withoutI p.2.1 a = [] then none else some (p.1, withoutI p.2.1 a, p.2.2)
def endH (a : Int) (p : Pt) : Option Int := if p.1 = [] ∧ withoutI p.2.1 a = [] then some p.2.2 else none
def inLot (a : Int) (p : Pt) : Bool := decide (a ∈ p.2.1) || decide (a + 1 ∈ p.2.1)
def meltI (a : Int) (lot : List Pt) : Pt := (sortI (lot.flatMap (·.1)), sortI (lot.flatMap (·.2.1)), (lot.map (·.2.2)).sum + if lot.length = 1 then 1 else 0)
def grownI (ps : List Pt) (a : Int) : List Pt := (ps.filter (fun p => !inLot a p) ++ [meltI a (ps.filter (inLot a))]).map fun p => (p.1, withoutI p.2.1 (a + 1), p.2.2)
def behindI (n : Int) (q : Pc) : Int := match q.1 with
  | .st => n + 1
  | .pa => n + 1
  | .en => n - 1
  | .jo => n - 1
  | _ => n
def ledP (ps : List Pt) (q : Pc) : List Pt := match q.1 with
  | .st => ps.map (fun p => (p.1, shiftI p.2.1 q.2 1, p.2.2)) ++ [([], [q.2], 0)]
  | .sw => ps.map fun p => (p.1, exchI p.2.1 q.2, p.2.2)
  | .pa => ps.map fun p => (p.1, partedI p.2.1 q.2, p.2.2)
  | .en => ps.filterMap (endP q.2)
  | _ => grownI ps q.2
def ledH (ps : List Pt) (sh : List Int) (q : Pc) : List Int := match q.1 with
  | .en => sh ++ ps.filterMap (endH q.2)
  | _ => sh
def ledS (s : Sf) (q : Pc) : Sf := ⟨s.m, behindI s.n q, sortP (ledP s.ps q), sortI (ledH s.ps s.sh q)⟩
theorem tup0 : fTup [] = some (.fz (.tuple [])) := rfl
theorem tup1 (a : D) : fTup [a] = some (.fz (.tuple [a])) := rfl
theorem tup2 (a b : D) : fTup [a, b] = some (.fz (.tuple [a, b])) := rfl
theorem tup3 (a b c : D) : fTup [a, b, c] = some (.fz (.tuple [a, b, c])) := rfl
theorem tup4 (a b c d : D) : fTup [a, b, c, d] = some (.fz (.tuple [a, b, c, d])) := rfl
theorem lst0 : fLst [] = some (.fr []) := rfl
theorem lst1 (a : D) : fLst [a] = some (.fr [a]) := rfl
theorem x_seq_tI {a : List Int} {ρ : Ev} : seqOf (.v (.fz (tI a))) ρ = .ok (a.map PyData.int) ρ := rfl
theorem tI_def (xs : List Int) : PyData.tuple (xs.map PyData.int) = tI xs := rfl
theorem add_tI {a b : List Int} (h : a.length + b.length ≤ 16777216) : fAdd (tI a) (tI b) = some (.fz (tI (a ++ b))) := by
  show (if (a.map PyData.int).length + (b.map PyData.int).length ≤ lim then some (RV.fz (.tuple (a.map PyData.int ++ b.map PyData.int))) else none) = _
  rw [if_pos (by rw [List.length_map, List.length_map]; exact h), ← List.map_append]; rfl
theorem add_ls {xs ys : List D} (h : xs.length + ys.length ≤ 16777216) : fAdd (.list xs) (.list ys) = some (.fr (xs ++ ys)) := if_pos h
theorem eq_tI0 {a : List Int} : fEq (tI a) (.tuple []) = some (.fz (.bool a.isEmpty)) := by
  have h : (tI a).depth ≤ 64 := by simp [tI, PyData.depth, depth_ints]
  unfold fEq
  rw [if_pos (show small (tI a) (.tuple []) = true from decide_eq_true (Nat.le_trans (Nat.min_le_left _ _) h))]
  cases a <;> rfl
theorem in_tI {neg : Bool} {a : Int} {l : List Int} : fIn neg (.int a) (tI l) = some (.fz (.bool (neg != decide (a ∈ l)))) := by
  show (if min (PyData.depthAll (l.map PyData.int)) (PyData.int a).depth ≤ 64 then some (RV.fz (.bool (neg != (l.map PyData.int).any fun y => PyData.eqv y (.int a)))) else none) = _
  rw [if_pos (by rw [depth_ints]; exact Nat.zero_le _)]
  congr 4
  rw [List.any_map, Bool.eq_iff_iff, List.any_eq_true, decide_eq_true_iff]
  constructor
  · rintro ⟨x, hx, e⟩
    have e : x = a := by simpa [PyData.eqv] using e
    rw [← e]; exact hx
  · intro h
    exact ⟨a, h, by simp [PyData.eqv]⟩
theorem fm_ne {a : Int} : ∀ {l : List Int}, l.filterMap (fun x => if x = a then none else some (PyData.int x)) = (l.filter fun x => !(x == a)).map PyData.int
  | [] => rfl
  | x :: l => by
    by_cases h : x = a
    · simp [List.filterMap_cons, h, fm_ne (a := a) (l := l)]
    · simp [List.filterMap_cons, h, fm_ne (a := a) (l := l)]
section
variable {lot : List Int} (hl : lot.length ≤ 1000000)
include hl
theorem shifted {b d : Int} : resV (p_shifted [.frz (tI lot), .frz (.int b), .frz (.int d)]) = some (.fz (tI (shiftI lot b d))) := by
  refine pf_ans ?_
  unfold m_shifted
  simp
  refine wd_compF lot PyData.int (fun x => .int (if b ≤ x then x + d else x)) (ρ1 := [some (.frz (tI lot)), some (.frz (.int b)), some (.frz (.int d)), none]) (by simp [x_seq_tI]) (lim_of (by omega)) (fun x hx => ?_) ?_
  · simp [wipeE, over]
    by_cases h : b ≤ x
    · simp [h]
      omega
    · simp [h]
  · simp [tI, shiftI]
theorem exchanged {a : Int} : resV (p_exchanged [.frz (tI lot), .frz (.int a)]) = some (.fz (tI (exchI lot a))) := by
  refine pf_ans ?_
  unfold m_exchanged
  simp
  refine wd_compF lot PyData.int (fun x => .int (if x = a then a + 1 else if x = a + 1 then a else x)) (ρ1 := [some (.frz (tI lot)), some (.frz (.int a)), none]) (by simp [x_seq_tI]) (lim_of (by omega)) (fun x hx => ?_) ?_
  · simp [wipeE, over]
    by_cases h : x = a <;> by_cases h2 : x = a + 1 <;> simp [h, h2] <;> omega
  · rw [show lot.map (fun x => PyData.int (if x = a then a + 1 else if x = a + 1 then a else x)) = (lot.map fun x => if x = a then a + 1 else if x = a + 1 then a else x).map PyData.int by rw [List.map_map]; rfl]
    simp only [x_rd_v, x_fr, opP_some, opP_rds, x_rds_nil, x_mArgs_nil, bind_ok, wd_ok, wd_primN, wd_bind]
    rw [sorted_ints (by simp; omega)]
    simp [tI_def, exchI]
theorem without {a : Int} : resV (p_without [.frz (tI lot), .frz (.int a)]) = some (.fz (tI (withoutI lot a))) := by
  refine pf_ans ?_
  unfold m_without
  have hf : (lot.filter fun x => !(x == a)).length ≤ 1000000 := Nat.le_trans (List.length_filter_le _ _) hl
  have z := shifted hf (b := a) (d := -1)
  simp
  refine wd_compG lot PyData.int (fun x => if x = a then none else some (.int x)) (ρ1 := [some (.frz (tI lot)), some (.frz (.int a)), none]) (by simp [x_seq_tI]) (lim_of (by omega)) (fun x hx => ?_) ?_
  · simp [wipeE, over]
  · rw [fm_ne]
    simp only [x_rd_v, x_fr, opP_some, opP_rds, x_rds_nil, x_mArgs_nil, bind_ok, wd_ok, wd_primN, wd_bind, tup_list, tI_def]
    simp [z, withoutI]
theorem parted {a : Int} : resV (p_parted [.frz (tI lot), .frz (.int a)]) = some (.fz (tI (partedI lot a))) := by
  refine pf_ans ?_
  unfold m_parted
  have z := shifted hl (b := a + 1) (d := 1)
  have hs : (shiftI lot (a + 1) 1).length ≤ 1000000 := by simpa [shiftI] using hl
  simp [z, in_tI, tup1]
  have A := add_tI (a := shiftI lot (a + 1) 1) (b := [a + 1]) (by simp; omega)
  have T := sorted_intsT (ns := shiftI lot (a + 1) 1 ++ [a + 1]) (by simp; omega)
  rw [show PyData.tuple [.int (a + 1)] = tI [a + 1] from rfl, A]
  refine ⟨fun h => ?_, fun h => ?_⟩
  · simp [T, tup_list, tI_def, partedI, h]
  · simp [partedI, h]
end
end La
set_option Elab.async false
set_option linter.all false
set_option maxRecDepth 100000
set_option maxHeartbeats 1000000
/-! Kp2: parts ended, grown; a surface led by a piece. -/
namespace La
open PySem L2 PyProof.Rows Pu
theorem x_asg_p {i j k : Nat} {p : Pt} {ρ : Ev} : asg (.t [i, j, k]) (partE p) ρ = puts [i, j, k] [tI p.1, tI p.2.1, .int p.2.2] ρ := rfl
theorem part_0 {p : Pt} : fItem (partE p) (.int 0) = some (.fz (tI p.1)) := rfl
theorem part_1 {p : Pt} : fItem (partE p) (.int 1) = some (.fz (tI p.2.1)) := rfl
theorem part_2 {p : Pt} : fItem (partE p) (.int 2) = some (.fz (.int p.2.2)) := rfl
structure Sz (ps : List Pt) : Prop where
  l : ps.length ≤ 1000
  i : ∀ p ∈ ps, p.1.length ≤ 1000
  o : ∀ p ∈ ps, p.2.1.length ≤ 1000
theorem list_tI' {a : List Int} : fList [tI a] = some (.fr (a.map PyData.int)) := rfl
def Ien (a b : D) (sh : List Int) (at_ : Int) (l1 : List Pt) (ρ : Ev) : Prop := ∃ x5 x6 x7 x8, ni x5 = true ∧ ni x6 = true ∧ ni x7 = true ∧ ni x8 = true ∧
  ρ = [some (.frz a), some (.frz b), some (.frz (.int at_)), some (.own ((l1.filterMap (endP at_)).map partE)), some (.own ((sh ++ l1.filterMap (endH at_)).map PyData.int)), x5, x6, x7, x8]
theorem ended {ps : List Pt} {sh : List Int} {a : Int} (z : Sz ps) (hs : sh.length ≤ 1000) : resV (p_ended [.frz (.tuple (ps.map partE)), .frz (tI sh), .frz (.int a)]) = some (.fz (.tuple [.list ((ps.filterMap (endP a)).map partE), .list ((sh ++ ps.filterMap (endH a)).map PyData.int)])) := by
  refine pf_ans ?_
  unfold m_ended
  simp [lst0, list_tI']
  refine wd_forF ps partE (Ien (.tuple (ps.map partE)) (tI sh) sh a) (ρ1 := [some (.frz (.tuple (ps.map partE))), some (.frz (tI sh)), some (.frz (.int a)), some (.own []), some (.own (sh.map PyData.int)), none, none, none, none]) (by simp) ⟨none, none, none, none, rfl, rfl, rfl, rfl, by simp⟩ (fun l1 p l2 ρ el ⟨x5, x6, x7, x8, h5, h6, h7, h8, e⟩ => ?_) fun ρ ⟨x5, x6, x7, x8, h5, h6, h7, h8, e⟩ => ?_
  · subst e
    have hp : p ∈ ps := by rw [el]; simp
    have hll : l1.length ≤ 1000 := by
      have zl := z.l
      have := congrArg List.length el
      simp at this
      omega
    have W := without (lot := p.2.1) (by have := z.o p hp; omega) (a := a)
    have b1 : (l1.filterMap (endP a)).length < lim := Nat.lt_of_le_of_lt (Nat.le_trans (List.length_filterMap_le _ _) hll) (by show 1000 < 16777216; decide)
    have b2 : (sh ++ l1.filterMap (endH a)).length < lim := by
      rw [List.length_append]
      have := List.length_filterMap_le (endH a) l1
      show _ < 16777216
      omega
    generalize hw : withoutI p.2.1 a = w at W
    have fin : ∀ f m, f = ((l1 ++ [p]).filterMap (endP a)).map partE → m = (sh ++ (l1 ++ [p]).filterMap (endH a)).map PyData.int → Ien (.tuple (ps.map partE)) (tI sh) sh a (l1 ++ [p]) [some (.frz (.tuple (ps.map partE))), some (.frz (tI sh)), some (.frz (.int a)), some (.own f), some (.own m), some (.frz (tI p.1)), some (.frz (tI p.2.1)), some (.frz (.int p.2.2)), some (.frz (tI w))] := fun f m hf hm => by
      subst hf; subst hm
      exact ⟨_, _, _, _, rfl, rfl, rfl, rfl, rfl⟩
    simp at b2
    by_cases hc : p.1 = [] ∧ w = []
    · have e1 : endP a p = none := by unfold endP; rw [if_pos (by rw [hw]; exact hc)]
      have e2 : endH a p = some p.2.2 := by unfold endH; rw [if_pos (by rw [hw]; exact hc)]
      have g := fin ((l1.filterMap (endP a)).map partE) ((sh ++ l1.filterMap (endH a)).map PyData.int ++ [.int p.2.2]) (by simp [List.filterMap_append, e1]) (by simp [List.filterMap_append, e2])
      obtain ⟨c1, c2⟩ := hc
      rw [c1, c2] at g
      rw [c2] at W
      simp [x_asg_p, h5, h6, h7, h8, W, tup0, eq_tI0, c1, b2]
      simpa using g
    · have e1 : endP a p = some (p.1, w, p.2.2) := by unfold endP; rw [hw, if_neg hc]
      have e2 : endH a p = none := by unfold endH; rw [hw, if_neg hc]
      have g := fin ((l1.filterMap (endP a)).map partE ++ [partE (p.1, w, p.2.2)]) ((sh ++ l1.filterMap (endH a)).map PyData.int) (by simp [List.filterMap_append, e1]) (by simp [List.filterMap_append, e2])
      by_cases c1 : p.1 = []
      · have c2 : ¬ w = [] := fun h => hc ⟨c1, h⟩
        rw [c1] at g
        simp [x_asg_p, h5, h6, h7, h8, W, tup0, eq_tI0, c1, c2, b1, tup3]
        simpa [partE] using g
      · simp [x_asg_p, h5, h6, h7, h8, W, tup0, eq_tI0, c1, b1, tup3]
        simpa [partE] using g
  · subst e
    simp [tup2]
theorem in_parts {p : Pt} {l : List Pt} : fIn true (partE p) (.list (l.map partE)) = some (.fz (.bool (!decide (p ∈ l)))) := by
  have d : ∀ l : List Pt, PyData.depthAll (l.map partE) ≤ 64 := fun l => by
    induction l with
    | nil => simp [PyData.depthAll]
    | cons q l ih =>
      rw [List.map_cons, PyData.depthAll]
      have := partE_depth q
      omega
  show (if min (PyData.depthAll (l.map partE)) (partE p).depth ≤ 64 then some (RV.fz (.bool (true != (l.map partE).any fun y => PyData.eqv y (partE p)))) else none) = _
  rw [if_pos (Nat.le_trans (Nat.min_le_left _ _) (d l))]
  have e : ((l.map partE).any fun y => PyData.eqv y (partE p)) = decide (p ∈ l) := by
    rw [List.any_map, Bool.eq_iff_iff, List.any_eq_true, decide_eq_true_iff]
    constructor
    · rintro ⟨x, hx, e⟩
      have e := partE_inj _ _ ((eqv_tree _ _ (partE_tree x) (partE_tree p)).mp e)
      rw [← e]; exact hx
    · intro h
      exact ⟨p, h, (eqv_tree _ _ (partE_tree p) (partE_tree p)).mpr rfl⟩
  rw [e]
  cases decide (p ∈ l) <;> rfl
theorem fm_some {α β γ : Type} {f : α → β} {q : α → Bool} {g : α → γ} : ∀ {l : List α}, l.filterMap (fun a => if q a = true then some (g a) else none) = (l.filter q).map g
  | [] => rfl
  | a :: l => by
    by_cases h : q a = true
    · simp [List.filterMap_cons, List.filter_cons, h, fm_some (f := f) (q := q) (g := g) (l := l)]
    · simp [List.filterMap_cons, List.filter_cons, h, fm_some (f := f) (q := q) (g := g) (l := l)]
theorem fm_no {α γ : Type} {q : α → Bool} {g : α → γ} : ∀ {l : List α}, l.filterMap (fun a => if q a = true then none else some (g a)) = (l.filter fun a => !q a).map g
  | [] => rfl
  | a :: l => by
    by_cases h : q a = true
    · simp [List.filterMap_cons, List.filter_cons, h, fm_no (q := q) (g := g) (l := l)]
    · simp [List.filterMap_cons, List.filter_cons, h, fm_no (q := q) (g := g) (l := l)]
def gI0 (d : D) : List D := match d with
  | .tuple [.tuple xs, _, _] => xs
  | _ => []
def gI1 (d : D) : List D := match d with
  | .tuple [_, .tuple xs, _] => xs
  | _ => []
theorem flat_g0 : ∀ {l : List Pt}, (l.map partE).flatMap gI0 = (l.flatMap (·.1)).map PyData.int
  | [] => rfl
  | p :: l => by
    rw [List.map_cons, List.flatMap_cons, List.flatMap_cons, List.map_append, flat_g0]
    rfl
theorem flat_g1 : ∀ {l : List Pt}, (l.map partE).flatMap gI1 = (l.flatMap (·.2.1)).map PyData.int
  | [] => rfl
  | p :: l => by
    rw [List.map_cons, List.flatMap_cons, List.flatMap_cons, List.map_append, flat_g1]
    rfl
theorem sum_ints {l : List Int} : fSum [.list (l.map PyData.int)] = some (.fz (.int l.sum)) := by
  show (asInts (l.map PyData.int)).map _ = _
  rw [asInts_of]; rfl
theorem flat_le {α : Type} {f : α → List Int} {k : Nat} : ∀ {l : List α}, (∀ a ∈ l, (f a).length ≤ k) → (l.flatMap f).length ≤ l.length * k
  | [], _ => by simp
  | a :: l, h => by
    rw [List.flatMap_cons, List.length_append, List.length_cons, Nat.add_mul, Nat.one_mul]
    have := h a List.mem_cons_self
    have := flat_le (l := l) fun b hb => h b (List.mem_cons_of_mem _ hb)
    omega
theorem grown {ps : List Pt} {a : Int} (z : Sz ps) : resV (p_grown [.frz (.tuple (ps.map partE)), .frz (.int a)]) = some (.fr ((grownI ps a).map partE)) := by
  refine pf_ans ?_
  unfold m_grown
  have zl := z.l
  have lf : ∀ q : Pt → Bool, (ps.filter q).length ≤ 1000 := fun q => Nat.le_trans (List.length_filter_le _ _) zl
  have f1 : ((ps.filter (inLot a)).flatMap (·.1)).length ≤ 1000000 := Nat.le_trans (flat_le (k := 1000) fun p hp => z.i p (List.mem_filter.mp hp).1) (Nat.mul_le_mul_right 1000 (lf _))
  have f2 : ((ps.filter (inLot a)).flatMap (·.2.1)).length ≤ 1000000 := Nat.le_trans (flat_le (k := 1000) fun p hp => z.o p (List.mem_filter.mp hp).1) (Nat.mul_le_mul_right 1000 (lf _))
  simp
  refine wd_compG ps partE (fun p => if inLot a p = true then some (partE p) else none) (ρ1 := [some (.frz (.tuple (ps.map partE))), some (.frz (.int a)), none, none, none, none, none, none, none]) (by simp) (lim_of (by omega)) (fun p hp => ?_) ?_
  · simp [wipeE, over, part_1, in_tI]
    unfold inLot
    by_cases h1 : a ∈ p.2.1 <;> by_cases h2 : a + 1 ∈ p.2.1 <;> simp [h1, h2]
  · rw [fm_some (f := partE)]
    simp
    refine wd_comp2P gI0 ?_
    refine Wd.imp (Q := fun ds ρ' => ds = (ps.filter (inLot a)).map partE ∧ ρ' = [some (.frz (.tuple (ps.map partE))), some (.frz (.int a)), some (.frz (.list ((ps.filter (inLot a)).map partE))), none, none, none, none, none, none]) (by simp) fun ds ρ' ⟨z1, z2⟩ => ?_
    subst z1; subst z2
    refine ⟨lim_of (by rw [List.length_map]; have := lf (inLot a); omega), fun d hd => ?_, lim_of (by rw [flat_g0, List.length_map]; omega), ?_⟩
    · obtain ⟨p, hp, rfl⟩ := List.mem_map.mp hd
      have hpl := z.i p (List.mem_filter.mp hp).1
      simp [wipeE, over]
      refine wd_compIn some ?_
      simp [part_0, x_seq_tI]
      refine ⟨lim_of (by omega), fun d hd => by simp [wipeE, over], ?_⟩
      simp [gI0, partE, tI, wipeE, over]
    · rw [flat_g0]
      simp only [x_rd_v, x_fr, opP_some, opP_rds, x_rds_nil, x_mArgs_nil, bind_ok, wd_ok, wd_primN, wd_bind]
      rw [sorted_ints (by omega)]
      simp [tup_list, tI_def]
      refine wd_comp2P gI1 ?_
      refine Wd.imp (Q := fun ds ρ' => ds = (ps.filter (inLot a)).map partE ∧ ρ' = [some (.frz (.tuple (ps.map partE))), some (.frz (.int a)), some (.frz (.list ((ps.filter (inLot a)).map partE))), none, some (.frz (tI (sortI ((ps.filter (inLot a)).flatMap (·.1))))), none, none, none, none]) (by simp) fun ds ρ' ⟨z1, z2⟩ => ?_
      subst z1; subst z2
      refine ⟨lim_of (by rw [List.length_map]; have := lf (inLot a); omega), fun d hd => ?_, lim_of (by rw [flat_g1, List.length_map]; omega), ?_⟩
      · obtain ⟨p, hp, rfl⟩ := List.mem_map.mp hd
        have hpl := z.o p (List.mem_filter.mp hp).1
        simp [wipeE, over]
        refine wd_compIn some ?_
        simp [part_1, x_seq_tI]
        refine ⟨lim_of (by omega), fun d hd => by simp [wipeE, over], ?_⟩
        simp [gI1, partE, tI, wipeE, over]
      · rw [flat_g1]
        simp only [x_rd_v, x_fr, opP_some, opP_rds, x_rds_nil, x_mArgs_nil, bind_ok, wd_ok, wd_primN, wd_bind]
        rw [sorted_ints (by omega)]
        simp [tup_list, tI_def]
        refine wd_compF (ps.filter (inLot a)) partE (fun p => .int p.2.2) (ρ1 := [some (.frz (.tuple (ps.map partE))), some (.frz (.int a)), some (.frz (.list ((ps.filter (inLot a)).map partE))), none, some (.frz (tI (sortI ((ps.filter (inLot a)).flatMap (·.1))))), none, some (.frz (tI (sortI ((ps.filter (inLot a)).flatMap (·.2.1))))), none, none]) (by simp) (lim_of (by have := lf (inLot a); omega)) (fun p hp => by simp [wipeE, over, part_2]) ?_
        rw [show (ps.filter (inLot a)).map (fun p => PyData.int p.2.2) = ((ps.filter (inLot a)).map (·.2.2)).map PyData.int by rw [List.map_map]; rfl]
        simp only [x_rd_v, x_fr, opP_some, opP_rds, x_rds_nil, x_mArgs_nil, bind_ok, wd_ok, wd_primN, wd_bind, sum_ints]
        have fin : ∀ hh, hh = ((ps.filter (inLot a)).map (·.2.2)).sum + (if (ps.filter (inLot a)).length = 1 then 1 else 0) → Wd (mComp [4, 6, 7] (mSeq (mSlot 8)) (.t [4, 6, 7]) (mC (.bool true)) (mTup [mEsc (mSlot 4), mEsc (mCall 2 p_without [mEsc (mSlot 6), mEsc (mBin fAdd (mSlot 1) (mC (.int 1)))]), mEsc (mSlot 7)])
            [some (.frz (.tuple (ps.map partE))), some (.frz (.int a)), some (.frz (.list ((ps.filter (inLot a)).map partE))), none, some (.frz (tI (sortI ((ps.filter (inLot a)).flatMap (·.1))))), none, some (.frz (tI (sortI ((ps.filter (inLot a)).flatMap (·.2.1))))), some (.frz (.int hh)), some (.own ((ps.filter (fun p => !inLot a p)).map partE ++ [partE (sortI ((ps.filter (inLot a)).flatMap (·.1)), sortI ((ps.filter (inLot a)).flatMap (·.2.1)), hh)]))])
            fun h ρ' => h = .v (.fr ((grownI ps a).map partE)) := fun hh eh => by
          refine wd_compF (ps.filter (fun p => !inLot a p) ++ [meltI a (ps.filter (inLot a))]) partE (fun p => partE (p.1, withoutI p.2.1 (a + 1), p.2.2)) (ρ1 := [some (.frz (.tuple (ps.map partE))), some (.frz (.int a)), some (.frz (.list ((ps.filter (inLot a)).map partE))), none, some (.frz (tI (sortI ((ps.filter (inLot a)).flatMap (·.1))))), none, some (.frz (tI (sortI ((ps.filter (inLot a)).flatMap (·.2.1))))), some (.frz (.int hh)), some (.frz (.list ((ps.filter (fun p => !inLot a p)).map partE ++ [partE (sortI ((ps.filter (inLot a)).flatMap (·.1)), sortI ((ps.filter (inLot a)).flatMap (·.2.1)), hh)])))])
            (by simp [meltI, eh]) (lim_of (by have := lf (fun p => !inLot a p); simp; omega)) (fun p hp => ?_) ?_
          · have hpl : p.2.1.length ≤ 1000000 := by
              rcases List.mem_append.mp hp with h | h
              · have := z.o p (List.mem_filter.mp h).1
                omega
              · rw [List.mem_singleton.mp h]
                show (sortI _).length ≤ _
                rw [(sortI_perm _).length_eq]
                exact f2
            have W := without (lot := p.2.1) (by omega) (a := a + 1)
            simp [wipeE, over, x_asg_p, W, tup3]
            rfl
          · unfold grownI
            rw [List.map_map]
            rfl
        by_cases h1 : (ps.filter (inLot a)).length = 1
        · simp [h1]
          refine wd_compG ps partE (fun p => if inLot a p = true then none else some (partE p)) (ρ1 := [some (.frz (.tuple (ps.map partE))), some (.frz (.int a)), some (.frz (.list ((ps.filter (inLot a)).map partE))), none, some (.frz (tI (sortI ((ps.filter (inLot a)).flatMap (·.1))))), none, some (.frz (tI (sortI ((ps.filter (inLot a)).flatMap (·.2.1))))), some (.frz (.int (((ps.filter (inLot a)).map (·.2.2)).sum + 1))), none]) (by simp) (lim_of (by omega)) (fun p hp => ?_) ?_
          · simp [wipeE, over, in_parts, hp]
          · rw [fm_no]
            simp [lst1, tup3]
            rw [show PyData.tuple [tI (sortI ((ps.filter (inLot a)).flatMap (·.1))), tI (sortI ((ps.filter (inLot a)).flatMap (·.2.1))), .int (((ps.filter (inLot a)).map (·.2.2)).sum + 1)] = partE (sortI ((ps.filter (inLot a)).flatMap (·.1)), sortI ((ps.filter (inLot a)).flatMap (·.2.1)), ((ps.filter (inLot a)).map (·.2.2)).sum + 1) from rfl,
              add_ls (by have := lf (fun p => !inLot a p); simp; omega), opP_some]
            exact (fin _ (by rw [if_pos h1])).imp fun h ρ' e => by rw [e]; first | exact Wd.mk rfl | exact rfl
        · have h1' : ¬ (((ps.filter (inLot a)).length : Nat) : Int) = 1 := by omega
          simp [h1']

          refine wd_compG ps partE (fun p => if inLot a p = true then none else some (partE p)) (ρ1 := [some (.frz (.tuple (ps.map partE))), some (.frz (.int a)), some (.frz (.list ((ps.filter (inLot a)).map partE))), none, some (.frz (tI (sortI ((ps.filter (inLot a)).flatMap (·.1))))), none, some (.frz (tI (sortI ((ps.filter (inLot a)).flatMap (·.2.1))))), some (.frz (.int ((ps.filter (inLot a)).map (·.2.2)).sum)), none]) (by simp) (lim_of (by omega)) (fun p hp => ?_) ?_
          · simp [wipeE, over, in_parts, hp]
          · rw [fm_no]
            simp [lst1, tup3]
            rw [show PyData.tuple [tI (sortI ((ps.filter (inLot a)).flatMap (·.1))), tI (sortI ((ps.filter (inLot a)).flatMap (·.2.1))), .int ((ps.filter (inLot a)).map (·.2.2)).sum] = partE (sortI ((ps.filter (inLot a)).flatMap (·.1)), sortI ((ps.filter (inLot a)).flatMap (·.2.1)), ((ps.filter (inLot a)).map (·.2.2)).sum) from rfl,
              add_ls (by have := lf (fun p => !inLot a p); simp; omega), opP_some]
            exact (fin _ (by rw [if_neg h1, Int.add_zero])).imp fun h ρ' e => by rw [e]; first | exact Wd.mk rfl | exact rfl
end La
set_option Elab.async false
set_option linter.all false
set_option maxRecDepth 100000
set_option maxHeartbeats 1000000
/-! Kp3: a surface led by pieces; words judged. -/
namespace La
open PySem L2 PyProof.Rows Pu
section
variable {k : Kn}
theorem eq_st : fEq (.str (kS k)) (.str "start") = some (.fz (.bool (decide (k = .st)))) := by cases k <;> rfl
theorem eq_en : fEq (.str (kS k)) (.str "end") = some (.fz (.bool (decide (k = .en)))) := by cases k <;> rfl
theorem eq_pa : fEq (.str (kS k)) (.str "part") = some (.fz (.bool (decide (k = .pa)))) := by cases k <;> rfl
theorem eq_sw : fEq (.str (kS k)) (.str "swap") = some (.fz (.bool (decide (k = .sw)))) := by cases k <;> rfl
theorem eq_jo : fEq (.str (kS k)) (.str "join") = some (.fz (.bool (decide (k = .jo)))) := by cases k <;> rfl
theorem in_sp : fIn false (.str (kS k)) (.tuple [.str "start", .str "part"]) = some (.fz (.bool (decide (k = .st ∨ k = .pa)))) := by cases k <;> rfl
theorem in_ej : fIn false (.str (kS k)) (.tuple [.str "end", .str "join"]) = some (.fz (.bool (decide (k = .en ∨ k = .jo)))) := by cases k <;> rfl
theorem in_js : fIn false (.str (kS k)) (.tuple [.str "join", .str "swap"]) = some (.fz (.bool (decide (k = .jo ∨ k = .sw)))) := by cases k <;> rfl
theorem in_spL : fIn false (.str (kS k)) (.list [.str "start", .str "part"]) = some (.fz (.bool (decide (k = .st ∨ k = .pa)))) := by cases k <;> rfl
theorem in_ejL : fIn false (.str (kS k)) (.list [.str "end", .str "join"]) = some (.fz (.bool (decide (k = .en ∨ k = .jo)))) := by cases k <;> rfl
theorem in_jsL : fIn false (.str (kS k)) (.list [.str "join", .str "swap"]) = some (.fz (.bool (decide (k = .jo ∨ k = .sw)))) := by cases k <;> rfl
theorem in_all : fIn true (.str (kS k)) (.tuple [.str "end", .str "join", .str "part", .str "start", .str "swap"]) = some (.fz (.bool (decide (k = .tu)))) := by cases k <;> rfl
theorem in_allL : fIn true (.str (kS k)) (.list [.str "start", .str "end", .str "join", .str "part", .str "swap"]) = some (.fz (.bool (decide (k = .tu)))) := by cases k <;> rfl
end
theorem pc_0 {q : Pc} : fItem (pcD q) (.int 0) = some (.fz (.str (kS q.1))) := rfl
theorem pc_1 {q : Pc} : fItem (pcD q) (.int 1) = some (.fz (.int q.2)) := rfl
theorem x_asg_pc {i j : Nat} {q : Pc} {ρ : Ev} : asg (.t [i, j]) (pcD q) ρ = puts [i, j] [.str (kS q.1), .int q.2] ρ := rfl
theorem x_asg_s {i j k l : Nat} {s : Sf} {ρ : Ev} : asg (.t [i, j, k, l]) (surfE s) ρ = puts [i, j, k, l] [.int s.m, .int s.n, .tuple (s.ps.map partE), tI s.sh] ρ := rfl
theorem rims_behind {n : Int} {q : Pc} : resV (p_rims_behind [.frz (.int n), .frz (pcD q)]) = some (.fz (.int (behindI n q))) := by
  refine pf_ans ?_
  unfold m_rims_behind
  obtain ⟨k, a⟩ := q
  simp [pc_0, tup2, in_sp, in_ej]
  cases k <;> simp [behindI]
structure SzS (s : Sf) : Prop where
  p : Sz s.ps
  h : s.sh.length ≤ 1000
theorem mcomp {α β γ : Type} {g : β → γ} {f : α → β} : (g ∘ f) = fun a => g (f a) := rfl
theorem led_by {s : Sf} {q : Pc} (z : SzS s) : resV (p_led_by [.frz (surfE s), .frz (pcD q)]) = some (.fz (surfE (ledS s q))) := by
  refine pf_ans ?_
  unfold m_led_by
  obtain ⟨k, a⟩ := q
  have zl := z.p.l
  have zh := z.h
  have B := rims_behind (n := s.n) (q := (k, a))
  have SH := sorted_intsT (ns := s.sh) (by omega)
  have lp : ∀ f : Pt → Pt, (s.ps.map f).length ≤ 16777216 := fun f => by rw [List.length_map]; omega
  simp [x_asg_s, x_asg_pc, eq_st, eq_sw, eq_pa, eq_en]
  cases k with
  | st =>
    simp
    refine wd_compF s.ps partE (fun p => partE (p.1, shiftI p.2.1 a 1, p.2.2)) (ρ1 := [some (.frz (surfE s)), some (.frz (pcD (.st, a))), some (.frz (.int s.m)), some (.frz (.int s.n)), some (.frz (.tuple (s.ps.map partE))), some (.frz (tI s.sh)), some (.frz (.str (kS .st))), some (.frz (.int a)), none, none, none, none]) (by simp) (lim_of (by omega)) (fun p hp => ?_) ?_
    · have W := shifted (lot := p.2.1) (by have := z.p.o p hp; omega) (b := a) (d := 1)
      simp [wipeE, over, x_asg_p, W, tup3]
      rfl
    · have SP := sorted_parts (ps := ledP s.ps (.st, a)) (by simp [ledP]; omega)
      simp only [ledP, List.map_append, List.map_map, List.map_cons, List.map_nil] at SP
      rw [mcomp] at SP
      simp [tup0, tup1, tup3, lst1]
      rw [show PyData.tuple [.tuple [], .tuple [.int a], .int 0] = partE ([], [a], 0) from rfl, add_ls (by simp; omega), opP_some]
      simp [SP, SH, tup_list, tI_def, B, tup4, surfE, ledS, ledP, ledH]
  | sw =>
    simp
    refine wd_compF s.ps partE (fun p => partE (p.1, exchI p.2.1 a, p.2.2)) (ρ1 := [some (.frz (surfE s)), some (.frz (pcD (.sw, a))), some (.frz (.int s.m)), some (.frz (.int s.n)), some (.frz (.tuple (s.ps.map partE))), some (.frz (tI s.sh)), some (.frz (.str (kS .sw))), some (.frz (.int a)), none, none, none, none]) (by simp) (lim_of (by omega)) (fun p hp => ?_) ?_
    · have W := exchanged (lot := p.2.1) (by have := z.p.o p hp; omega) (a := a)
      simp [wipeE, over, x_asg_p, W, tup3]
      rfl
    · have SP := sorted_parts (ps := ledP s.ps (.sw, a)) (lp _)
      simp only [ledP, List.map_append, List.map_map, List.map_cons, List.map_nil] at SP
      rw [mcomp] at SP
      simp [SP, SH, tup_list, tI_def, B, tup4, surfE, ledS, ledP, ledH]
  | pa =>
    simp
    refine wd_compF s.ps partE (fun p => partE (p.1, partedI p.2.1 a, p.2.2)) (ρ1 := [some (.frz (surfE s)), some (.frz (pcD (.pa, a))), some (.frz (.int s.m)), some (.frz (.int s.n)), some (.frz (.tuple (s.ps.map partE))), some (.frz (tI s.sh)), some (.frz (.str (kS .pa))), some (.frz (.int a)), none, none, none, none]) (by simp) (lim_of (by omega)) (fun p hp => ?_) ?_
    · have W := parted (lot := p.2.1) (by have := z.p.o p hp; omega) (a := a)
      simp [wipeE, over, x_asg_p, W, tup3]
      rfl
    · have SP := sorted_parts (ps := ledP s.ps (.pa, a)) (lp _)
      simp only [ledP, List.map_append, List.map_map, List.map_cons, List.map_nil] at SP
      rw [mcomp] at SP
      simp [SP, SH, tup_list, tI_def, B, tup4, surfE, ledS, ledP, ledH]
  | en =>
    have E := ended (sh := s.sh) (a := a) z.p zh
    have f1 := List.length_filterMap_le (endP a) s.ps
    have f2 := List.length_filterMap_le (endH a) s.ps
    have SP := sorted_parts (ps := s.ps.filterMap (endP a)) (by omega)
    have SH2 := sorted_ints (ns := s.sh ++ s.ps.filterMap (endH a)) (by rw [List.length_append]; omega)
    simp [E]
    rw [← List.map_append]
    simp only [SP, SH2, opP_some, x_rd_v, x_fr]
    simp [tup_list, tI_def, B, tup4, surfE, ledS, ledP, ledH]
  | jo =>
    have E := grown (a := a) z.p
    have SP := sorted_parts (ps := grownI s.ps a) (by
      unfold grownI
      have := List.length_filter_le (fun p => !inLot a p) s.ps
      simp
      omega)
    simp [E, SP, SH, tup_list, tI_def, B, tup4, surfE, ledS, ledP, ledH]
  | tu =>
    have E := grown (a := a) z.p
    have SP := sorted_parts (ps := grownI s.ps a) (by
      unfold grownI
      have := List.length_filter_le (fun p => !inLot a p) s.ps
      simp
      omega)
    simp [E, SP, SH, tup_list, tI_def, B, tup4, surfE, ledS, ledP, ledH]
end La
set_option Elab.async false
set_option linter.all false
set_option maxRecDepth 100000
set_option maxHeartbeats 400000
/-! Kp4: words judged: their rims. -/
namespace La
open PySem L2 PyProof.Rows Pu
def fitsI (r : Int) (q : Pc) : Bool := match q.1 with
  | .st => decide (0 ≤ q.2) && decide (q.2 ≤ r)
  | .jo => decide (0 ≤ q.2) && decide (q.2 ≤ r - 2)
  | .sw => decide (0 ≤ q.2) && decide (q.2 ≤ r - 2)
  | .en => decide (0 ≤ q.2) && decide (q.2 ≤ r - 1)
  | .pa => decide (0 ≤ q.2) && decide (q.2 ≤ r - 1)
  | .tu => false
def wrdD (w : List Pc) : D := .tuple (w.map pcD)
theorem isa_s (x : Str) : PyData.isStr (.str x) = true := rfl
theorem jsT : fTup [.str "join", .str "swap"] = some (.fz (.tuple [.str "join", .str "swap"])) := rfl
theorem spT : fTup [.str "start", .str "part"] = some (.fz (.tuple [.str "start", .str "part"])) := rfl
theorem ejT : fTup [.str "end", .str "join"] = some (.fz (.tuple [.str "end", .str "join"])) := rfl
theorem spL : fLst [.str "start", .str "part"] = some (.fr [.str "start", .str "part"]) := rfl
theorem jsL : fLst [.str "join", .str "swap"] = some (.fr [.str "join", .str "swap"]) := rfl
theorem ejL : fLst [.str "end", .str "join"] = some (.fr [.str "end", .str "join"]) := rfl
theorem allL : fLst [.str "start", .str "end", .str "join", .str "part", .str "swap"] = some (.fr [.str "start", .str "end", .str "join", .str "part", .str "swap"]) := rfl
theorem tup_pc {q : Pc} : tupD (pcD q) 2 2 = true := rfl
theorem piece_of {r : Int} {q : Pc} : resV (p_is_piece_of [.frz (.int r), .frz (pcD q)]) = some (.fz (.bool (fitsI r q))) := by
  refine pf_ans ?_
  unfold m_is_piece_of
  obtain ⟨k, a⟩ := q
  simp [is_tuple_of, is_whole, tup_pc, pc_0, pc_1, isa_s, in_all, eq_st, in_js, jsT]
  cases k <;> simp [fitsI, wholeD]
/-- one more rim -/
def stepA (o : Option (List Int)) (q : Pc) : Option (List Int) := o.bind fun xs => if fitsI (xs.getLastD 0) q = true then some (xs ++ [behindI (xs.getLastD 0) q]) else none
def alongI (r : Int) (w : List Pc) : Option (List Int) := w.foldl stepA (some [r])
theorem along_snoc {r : Int} {w : List Pc} {q : Pc} : alongI r (w ++ [q]) = stepA (alongI r w) q := by
  unfold alongI
  rw [List.foldl_append]
  rfl
theorem steps_none {w : List Pc} : w.foldl stepA none = none := by
  induction w with
  | nil => rfl
  | cons q w ih => exact ih
theorem along_app {r : Int} {w v : List Pc} (h : alongI r w = none) : alongI r (w ++ v) = none := by
  unfold alongI at *
  rw [List.foldl_append, h, steps_none]
theorem snocI {α : Type} {P : List α → Prop} (h0 : P []) (hs : ∀ l a, P l → P (l ++ [a])) (l : List α) : P l := by
  have z : ∀ m : List α, P m.reverse := fun m => by
    induction m with
    | nil => exact h0
    | cons a m ih => rw [List.reverse_cons]; exact hs _ _ ih
  have := z l.reverse
  rwa [List.reverse_reverse] at this
theorem along_len {r : Int} {w : List Pc} : ∀ {xs : List Int}, alongI r w = some xs → xs.length = w.length + 1 := by
  refine snocI (P := fun w => ∀ {xs : List Int}, alongI r w = some xs → xs.length = w.length + 1) ?_ ?_ w
  · intro xs h; cases h; rfl
  · intro w q ih xs h
    rw [along_snoc] at h
    cases e : alongI r w with
    | none => rw [e] at h; cases h
    | some ys =>
      rw [e] at h
      unfold stepA at h
      rw [Option.bind_some] at h
      split at h
      · cases h
        rw [List.length_append, List.length_append, ih e]; rfl
      · cases h
theorem last_at {xs : List Int} (h : xs ≠ []) : fItem (.list (xs.map PyData.int)) (.int (-1)) = some (.fz (.int (xs.getLastD 0))) ∧ fItem (tI xs) (.int (-1)) = some (.fz (.int (xs.getLastD 0))) := by
  have e : atI (xs.map PyData.int) (-1) = some (.int (xs.getLastD 0)) := by
    obtain ⟨l, z, rfl⟩ : ∃ l z, xs = l ++ [z] := ⟨xs.dropLast, xs.getLast h, (List.dropLast_concat_getLast h).symm⟩
    have ix : ixN (l ++ [z]).length (-1) = some l.length := by
      unfold ixN
      rw [if_neg (by omega), List.length_append, List.length_singleton, if_pos (by omega)]
      congr 1
      omega
    unfold atI
    rw [List.length_map, ix, Option.bind_some, List.map_append, List.getElem?_append_right (by simp)]
    simp
  constructor
  · show (atI (xs.map PyData.int) (-1)).map _ = _
    rw [e]; rfl
  · show (atI (xs.map PyData.int) (-1)).map _ = _
    rw [e]; rfl
theorem maxL_le {m : Int} : ∀ {l : List Int} {a : Int}, (maxL a l ≤ m ↔ a ≤ m ∧ ∀ x ∈ l, x ≤ m)
  | [], a => by simp [maxL]
  | b :: l, a => by
    rw [show maxL a (b :: l) = maxL (if a < b then b else a) l from rfl, maxL_le]
    simp only [List.mem_cons, forall_eq_or_imp]
    split <;> constructor <;> rintro ⟨h1, h2⟩ <;> simp_all <;> omega
theorem max_ok {xs : List Int} (h : xs ≠ []) : ∃ m, fMax [.list (xs.map PyData.int)] = some (.fz (.int m)) ∧ ∀ b, m ≤ b ↔ ∀ x ∈ xs, x ≤ b := by
  cases xs with
  | nil => exact absurd rfl h
  | cons a l =>
    refine ⟨maxL a l, ?_, fun b => ?_⟩
    · show (match asInts ((a :: l).map PyData.int) with
        | some (a :: l) => some (RV.fz (.int (maxL a l)))
        | _ => none) = _
      rw [asInts_of]
    · rw [maxL_le]; simp
/-- the answer of rims_of -/
def rimsD (r : Int) (w : List Pc) : D := match alongI r w with
  | some xs => if ∀ x ∈ xs, x ≤ 20 then tI xs else .none
  | none => .none
def Iri (r : Int) (w l1 : List Pc) (ρ : Ev) : Prop := ∃ xs x, alongI r l1 = some xs ∧ ni x = true ∧ ρ = [some (.frz (.int r)), some (.frz (wrdD w)), some (.own (xs.map PyData.int)), x]
theorem along_ne {r : Int} {w : List Pc} {xs : List Int} (h : alongI r w = some xs) : xs ≠ [] := fun e => by
  have z := along_len h
  rw [e] at z
  cases z
theorem lst_own {xs : List Int} (h : xs.length ≤ 1000) : (xs.map PyData.int).length < lim := by
  rw [List.length_map]
  show _ < 16777216
  omega
theorem rims_of {r : Int} {w : List Pc} (hw : w.length ≤ 400) : resV (p_rims_of [.frz (.int r), .frz (wrdD w)]) = some (.fz (rimsD r w)) := by
  refine pf_ans ?_
  unfold m_rims_of
  simp [lst1]
  refine wd_forFR w pcD (Iri r w) (ρ1 := [some (.frz (.int r)), some (.frz (wrdD w)), some (.own [.int r]), none]) (by simp [wrdD]) ⟨[r], none, rfl, rfl, rfl⟩ (fun l1 q l2 ρ el ⟨xs, x, ea, hx, e⟩ => ?_) fun ρ ⟨xs, x, ea, hx, e⟩ => ?_
  · subst e
    have la := (last_at (along_ne ea)).1
    have ll := along_len ea
    have lw := congrArg List.length el
    simp at lw
    have lo := lst_own (xs := xs) (by omega)
    have B := rims_behind (n := xs.getLastD 0) (q := q)
    have P := piece_of (r := xs.getLastD 0) (q := q)
    have sn := along_snoc (r := r) (w := l1) (q := q)
    rw [ea] at sn
    simp only [stepA, Option.bind_some] at sn
    simp only [List.length_map] at lo
    generalize hg : xs.getLastD 0 = g at *
    generalize hp : fItem (.list (xs.map PyData.int)) (.int (-1)) = fi at la
    subst la
    simp [hx, hp, P, B, lo, -item_l]
    refine ⟨fun h => ?_, fun h => ?_⟩
    · rw [if_pos h] at sn
      exact ⟨_, some (.frz (pcD q)), sn, rfl, by simp⟩
    · rw [if_neg (by simp [h])] at sn
      have z : alongI r w = none := by
        rw [el, show l1 ++ q :: l2 = (l1 ++ [q]) ++ l2 by simp]
        exact along_app sn
      unfold rimsD
      rw [z]
  · subst e
    obtain ⟨m, hm, hb⟩ := max_ok (along_ne ea)
    simp [hm]
    rw [show rimsD r w = if ∀ x ∈ xs, x ≤ 20 then tI xs else .none by unfold rimsD; rw [ea]]
    refine ⟨fun h => ?_, fun h => ?_⟩
    · rw [if_pos ((hb 20).mp h)]; rfl
    · rw [if_neg (fun g => by have := (hb 20).mpr g; omega)]
end La
set_option Elab.async false
set_option linter.all false
set_option maxRecDepth 100000
set_option maxHeartbeats 400000
/-! Kp5: where a mark stands in a row. -/
namespace La
open PySem L2 PyProof.Rows Pu
def posF : Int → List Nat → Nat → List Int
  | _, [], _ => []
  | i, x :: xs, k => (if x = k then [i] else []) ++ posF (i + 1) xs k
def posI (xs : List Nat) (k : Nat) : List Int := posF 0 xs k
theorem posF_app : ∀ {xs ys : List Nat} {i : Int} {k : Nat}, posF i (xs ++ ys) k = posF i xs k ++ posF (i + xs.length) ys k
  | [], ys, i, k => by simp [posF]
  | x :: xs, ys, i, k => by
    rw [List.cons_append, posF, posF, posF_app, List.append_assoc, List.length_cons]
    congr 3
    omega
theorem posF_in : ∀ {xs : List Nat} {i : Int} {k : Nat} {x : Int}, x ∈ posF i xs k → i ≤ x ∧ x < i + xs.length
  | [], i, k, x, h => by cases h
  | y :: xs, i, k, x, h => by
    rw [posF, List.mem_append] at h
    rw [List.length_cons]
    rcases h with h | h
    · split at h
      · rw [List.mem_singleton] at h; omega
      · cases h
    · have := posF_in h
      omega
theorem posF_up : ∀ {xs : List Nat} {i : Int} {k : Nat}, (posF i xs k).Pairwise (· < ·)
  | [], i, k => .nil
  | y :: xs, i, k => by
    rw [posF]
    split
    · refine List.pairwise_cons.mpr ⟨fun x h => ?_, posF_up⟩
      have := posF_in h
      omega
    · exact posF_up
theorem posF_map {d : Int} : ∀ {xs : List Nat} {i : Int} {k : Nat}, (posF i xs k).map (fun x => x + d) = posF (i + d) xs k
  | [], i, k => rfl
  | y :: xs, i, k => by
    rw [posF, posF, List.map_append, posF_map]
    congr 1
    · split <;> rfl
    · congr 1; omega
theorem posF_nil : ∀ {xs : List Nat} {i : Int} {k : Nat}, posF i xs k = [] ↔ k ∉ xs
  | [], i, k => by simp [posF]
  | y :: xs, i, k => by
    rw [posF, List.append_eq_nil_iff, posF_nil, List.mem_cons]
    by_cases h : y = k
    · simp [h]
    · simp [h, Ne.symm h]
theorem posF_len : ∀ {xs : List Nat} {i : Int} {k : Nat}, (posF i xs k).length ≤ xs.length
  | [], i, k => Nat.le_refl _
  | y :: xs, i, k => by
    rw [posF, List.length_append, List.length_cons]
    have := posF_len (xs := xs) (i := i + 1) (k := k)
    split <;> simp <;> omega
/-- one mark renamed -/
def ren (c d : Nat) (z : Nat) : Nat := if z = c then d else z
theorem posF_ren {c d : Nat} (h : c ≠ d) : ∀ {xs : List Nat} {i : Int}, (posF i (xs.map (ren c d)) d).Perm (posF i xs c ++ posF i xs d)
  | [], i => .nil
  | y :: xs, i => by
    have ih := posF_ren h (xs := xs) (i := i + 1)
    rw [List.map_cons, posF, posF, posF]
    by_cases h1 : y = c
    · rw [if_pos (by rw [ren, if_pos h1]), if_pos h1, if_neg (by rw [h1]; exact h)]
      simpa using ih
    · by_cases h2 : y = d
      · rw [if_pos (by rw [ren, if_neg h1]; exact h2), if_neg h1, if_pos h2]
        simp
        exact (List.Perm.cons i ih).trans List.perm_middle.symm
      · rw [if_neg (by rw [ren, if_neg h1]; exact h2), if_neg h1, if_neg h2]
        simpa using ih
theorem posF_ren_ne {c d k : Nat} (h1 : k ≠ c) (h2 : k ≠ d) : ∀ {xs : List Nat} {i : Int}, posF i (xs.map (ren c d)) k = posF i xs k
  | [], i => rfl
  | y :: xs, i => by
    rw [List.map_cons, posF, posF, posF_ren_ne h1 h2]
    congr 1
    by_cases h : y = c
    · rw [ren, if_pos h, if_neg (Ne.symm h2), if_neg (by rw [h]; exact Ne.symm h1)]
    · rw [ren, if_neg h]
theorem mem_ren {c d : Nat} {xs : List Nat} {k : Nat} (h : c ≠ d) : k ∈ xs.map (ren c d) ↔ (k ≠ c ∧ k ∈ xs) ∨ (k = d ∧ c ∈ xs) := by
  rw [List.mem_map]
  constructor
  · rintro ⟨z, hz, rfl⟩
    unfold ren
    by_cases e : z = c
    · rw [if_pos e]; exact .inr ⟨rfl, e ▸ hz⟩
    · rw [if_neg e]; exact .inl ⟨e, hz⟩
  · rintro (⟨h1, h2⟩ | ⟨h1, h2⟩)
    · exact ⟨k, h2, by rw [ren, if_neg h1]⟩
    · exact ⟨c, h2, by rw [ren, if_pos rfl, h1]⟩
theorem shift_lo {lot : List Int} {b d : Int} (h : ∀ x ∈ lot, x < b) : shiftI lot b d = lot := by
  unfold shiftI
  rw [List.map_congr_left (g := id) fun x hx => by rw [if_neg (by have := h x hx; omega)]; rfl]
  exact List.map_id lot
theorem shift_hi {lot : List Int} {b d : Int} (h : ∀ x ∈ lot, b ≤ x) : shiftI lot b d = lot.map fun x => x + d := by
  unfold shiftI
  exact List.map_congr_left fun x hx => if_pos (h x hx)
theorem shift_app {l m : List Int} {b d : Int} : shiftI (l ++ m) b d = shiftI l b d ++ shiftI m b d := List.map_append
/-- a row opened -/
theorem pos_start {A B : List Nat} {f k : Nat} (h : f ≠ k) : posI (A ++ f :: B) k = shiftI (posI (A ++ B) k) A.length 1 := by
  unfold posI
  rw [posF_app, posF_app, posF, if_neg h, List.nil_append, shift_app, shift_lo fun x hx => ?_, shift_hi fun x hx => ?_, posF_map]
  · have := posF_in hx; omega
  · have := posF_in hx; omega
theorem pos_fresh {A B : List Nat} {f : Nat} (h1 : f ∉ A) (h2 : f ∉ B) : posI (A ++ f :: B) f = [(A.length : Int)] := by
  unfold posI
  rw [posF_app, posF, if_pos rfl, posF_nil.mpr h1, posF_nil.mpr h2]
  simp
theorem pos_end {A B : List Nat} {x k : Nat} : withoutI (posI (A ++ x :: B) k) A.length = posI (A ++ B) k := by
  unfold posI withoutI
  have e : (posF 0 (A ++ x :: B) k).filter (fun y => !(y == (A.length : Int))) = posF 0 A k ++ posF (0 + (A.length : Int) + 1) B k := by
    rw [posF_app, posF, List.filter_append, List.filter_append]
    have f1 : (posF 0 A k).filter (fun y => !(y == (A.length : Int))) = posF 0 A k := List.filter_eq_self.mpr fun y hy => by have := posF_in hy; simp; omega
    have f2 : (posF (0 + (A.length : Int) + 1) B k).filter (fun y => !(y == (A.length : Int))) = posF (0 + (A.length : Int) + 1) B k := List.filter_eq_self.mpr fun y hy => by have := posF_in hy; simp; omega
    rw [f1, f2]
    congr 1
    split <;> simp
  rw [e, posF_app, shift_app, shift_lo fun x hx => ?_, shift_hi fun x hx => ?_, posF_map]
  · congr 2; omega
  · have := posF_in hx; omega
  · have := posF_in hx; omega
theorem pos_swap {A B : List Nat} {x y k : Nat} : exchI (posI (A ++ x :: y :: B) k) A.length = posI (A ++ y :: x :: B) k := by
  refine sortI_is ?_ posF_up
  unfold posI
  rw [posF_app, posF_app, posF, posF, posF, posF, List.map_append, List.map_append, List.map_append]
  have e1 : (posF 0 A k).map (fun z => if z = (A.length : Int) then (A.length : Int) + 1 else if z = A.length + 1 then (A.length : Int) else z) = posF 0 A k := by
    rw [List.map_congr_left (g := id) fun z hz => by have := posF_in hz; rw [if_neg (by omega), if_neg (by omega)]; rfl]
    exact List.map_id _
  have e2 : (posF (0 + (A.length : Int) + 1 + 1) B k).map (fun z => if z = (A.length : Int) then (A.length : Int) + 1 else if z = A.length + 1 then (A.length : Int) else z) = posF (0 + (A.length : Int) + 1 + 1) B k := by
    rw [List.map_congr_left (g := id) fun z hz => by have := posF_in hz; rw [if_neg (by omega), if_neg (by omega)]; rfl]
    exact List.map_id _
  rw [e1, e2]
  refine List.Perm.append_left _ ?_
  rw [← List.append_assoc, ← List.append_assoc]
  refine List.Perm.append_right _ ?_
  have n1 : ¬ (A.length : Int) + 1 = A.length := by omega
  by_cases h1 : x = k <;> by_cases h2 : y = k <;> simp [h1, h2, n1]
  exact List.Perm.swap _ _ _
theorem pos_part {A B : List Nat} {x k : Nat} : partedI (posI (A ++ x :: B) k) A.length = posI (A ++ x :: x :: B) k := by
  have hm : (A.length : Int) ∈ posI (A ++ x :: B) k ↔ x = k := by
    unfold posI
    rw [posF_app, posF, List.mem_append, List.mem_append]
    constructor
    · rintro (h | h | h)
      · have := posF_in h; omega
      · split at h
        · assumption
        · cases h
      · have := posF_in h; omega
    · intro h
      rw [if_pos h]
      exact .inr (.inl (by simp))
  have es : shiftI (posI (A ++ x :: B) k) (A.length + 1) 1 = posF 0 A k ++ ((if x = k then [(A.length : Int)] else []) ++ posF (A.length + 1 + 1) B k) := by
    unfold posI
    rw [posF_app, posF, shift_app, shift_app, shift_lo fun x hx => ?_, shift_lo fun x hx => ?_, shift_hi fun x hx => ?_, posF_map]
    · rw [Int.zero_add]
    · have := posF_in hx; omega
    · split at hx
      · rw [List.mem_singleton] at hx; omega
      · cases hx
    · have := posF_in hx; omega
  unfold partedI
  rw [es]
  by_cases h : x = k
  · rw [if_pos (hm.mpr h)]
    refine sortI_is ?_ posF_up
    unfold posI
    rw [posF_app, posF, posF, Int.zero_add, List.append_assoc, List.append_assoc]
    simp only [if_pos h]
    refine List.Perm.append_left _ (List.Perm.append_left _ ?_)
    exact List.perm_append_comm
  · rw [if_neg fun g => h (hm.mp g)]
    unfold posI
    rw [posF_app, posF, posF]
    simp [h]
end La
set_option Elab.async false
set_option linter.all false
set_option maxRecDepth 100000
set_option maxHeartbeats 400000
/-! Kp6: a surface as marks that stand in two rows; each kind of piece. -/
namespace La
open PySem L2 PyProof.Rows Pu
def tch (ins row : List Nat) (k : Nat) : Bool := decide (k ∈ ins) || decide (k ∈ row)
def ptK (ins row : List Nat) (h : Nat → Int) (k : Nat) : Pt := (posI ins k, posI row k, h k)
def psK (ins row L : List Nat) (h : Nat → Int) : List Pt := (L.filter (tch ins row)).map (ptK ins row h)
def shK (ins row L : List Nat) (h : Nat → Int) : List Int := (L.filter fun k => !tch ins row k).map h
structure Rep (N : Nat) (s : Sf) (ins row L : List Nat) (h : Nat → Int) : Prop where
  nd : L.Nodup
  iL : ∀ k ∈ ins, k ∈ L
  rL : ∀ k ∈ row, k ∈ L
  lL : L.length ≤ N
  lr : row.length ≤ N
  li : ins.length ≤ N
  m : s.m = ins.length
  n : s.n = row.length
  fp : s.ps.Perm (psK ins row L h)
  fs : s.sh.Perm (shK ins row L h)
  sp : sortP s.ps = s.ps
  ss : sortI s.sh = s.sh
theorem sort2P (l : List Pt) : sortP (sortP l) = sortP l := sortP_uniq (sortP_perm l)
theorem sort2I (l : List Int) : sortI (sortI l) = sortI l := sortI_uniq (sortI_perm l)
theorem rep_ps {N : Nat} {s : Sf} {ins row L : List Nat} {h : Nat → Int} (R : Rep N s ins row L h) : s.ps = sortP (psK ins row L h) := by rw [← R.sp]; exact sortP_uniq R.fp
theorem rep_sh {N : Nat} {s : Sf} {ins row L : List Nat} {h : Nat → Int} (R : Rep N s ins row L h) : s.sh = sortI (shK ins row L h) := by rw [← R.ss]; exact sortI_uniq R.fs
/-- the same marks: the same surface -/
theorem rep_uniq {N M : Nat} {s t : Sf} {ins row L : List Nat} {h : Nat → Int} (R : Rep N s ins row L h) (R' : Rep M t ins row L h) : s = t := by
  obtain ⟨a, b, c, d⟩ := s
  obtain ⟨a', b', c', d'⟩ := t
  have e1 := R.m.trans R'.m.symm
  have e2 := R.n.trans R'.n.symm
  have e3 := (rep_ps R).trans (rep_ps R').symm
  have e4 := (rep_sh R).trans (rep_sh R').symm
  simp only at e1 e2 e3 e4
  rw [e1, e2, e3, e4]
theorem rep_sz {N : Nat} {s : Sf} {ins row L : List Nat} {h : Nat → Int} (R : Rep N s ins row L h) (hN : N ≤ 1000) : SzS s := by
  have f1 := R.fp.length_eq
  have f2 := R.fs.length_eq
  unfold psK at f1
  unfold shK at f2
  rw [List.length_map] at f1 f2
  have l1 := List.length_filter_le (tch ins row) L
  have l2 := List.length_filter_le (fun k => !tch ins row k) L
  have lL := R.lL
  refine ⟨⟨by omega, fun p hp => ?_, fun p hp => ?_⟩, by omega⟩
  · obtain ⟨k, _, rfl⟩ := List.mem_map.mp (R.fp.mem_iff.mp hp)
    have := posF_len (xs := ins) (i := 0) (k := k)
    have := R.li
    show (posI ins k).length ≤ 1000
    unfold posI
    omega
  · obtain ⟨k, _, rfl⟩ := List.mem_map.mp (R.fp.mem_iff.mp hp)
    have := posF_len (xs := row) (i := 0) (k := k)
    have := R.lr
    show (posI row k).length ≤ 1000
    unfold posI
    omega
theorem fm_as {α γ : Type} {q : α → Bool} {g : α → γ} {f : α → Option γ} {l : List α} (h : ∀ a ∈ l, f a = if q a = true then some (g a) else none) : l.filterMap f = (l.filter q).map g := by
  induction l with
  | nil => rfl
  | cons a l ih =>
    have ih := ih fun b hb => h b (List.mem_cons_of_mem _ hb)
    rw [List.filterMap_cons, List.filter_cons, h a List.mem_cons_self, ih]
    by_cases e : q a = true
    · rw [if_pos e, if_pos e]; rfl
    · rw [if_neg e, if_neg e]
theorem filter_two {α : Type} {p q : α → Bool} {l : List α} : (l.filter p).filter q = l.filter fun a => q a && p a := List.filter_filter ..
theorem tch_nil {ins row : List Nat} {k : Nat} : (posI ins k = [] ∧ posI row k = []) ↔ tch ins row k = false := by
  unfold posI tch
  rw [posF_nil, posF_nil]
  simp
section
variable {N : Nat} {s : Sf} {ins A B L : List Nat} {h : Nat → Int} {x y : Nat}
theorem shK_same {row row' : List Nat} (e : ∀ k ∈ L, tch ins row' k = tch ins row k) : shK ins row' L h = shK ins row L h := by
  unfold shK
  rw [List.filter_congr fun k hk => by rw [e k hk]]
theorem psK_same {row row' : List Nat} (g : List Int → List Int) (e : ∀ k ∈ L, tch ins row' k = tch ins row k) (p : ∀ k ∈ L, posI row' k = g (posI row k)) : psK ins row' L h = (psK ins row L h).map fun p => (p.1, g p.2.1, p.2.2) := by
  unfold psK
  rw [List.map_map, List.filter_congr e]
  refine List.map_congr_left fun k hk => ?_
  show (_, _, _) = (_, _, _)
  rw [p k (List.mem_filter.mp hk).1]
  rfl
/-- swap -/
theorem rep_swap (R : Rep N s ins (A ++ x :: y :: B) L h) : Rep N (ledS s (.sw, A.length)) ins (A ++ y :: x :: B) L h where
  nd := R.nd
  iL := R.iL
  rL := fun k hk => R.rL k (by simp at hk ⊢; rcases hk with h | h | h | h <;> simp [h])
  lL := R.lL
  lr := by have := R.lr; simp at this ⊢; omega
  li := R.li
  m := R.m
  n := by show s.n = _; rw [R.n]; simp
  fp := by
    refine (sortP_perm _).trans ?_
    show (s.ps.map fun p => (p.1, exchI p.2.1 A.length, p.2.2)).Perm _
    rw [psK_same (row := A ++ x :: y :: B) (fun l => exchI l A.length) (fun k _ => by unfold tch; congr 1; simp; grind) fun k _ => pos_swap.symm]
    exact R.fp.map _
  fs := by
    refine (sortI_perm _).trans ?_
    show s.sh.Perm _
    rw [shK_same (row := A ++ x :: y :: B) fun k _ => by unfold tch; congr 1; simp; grind]
    exact R.fs
  sp := sort2P _
  ss := sort2I _
/-- part -/
theorem rep_part (R : Rep N s ins (A ++ x :: B) L h) : Rep (N + 1) (ledS s (.pa, A.length)) ins (A ++ x :: x :: B) L h where
  nd := R.nd
  iL := R.iL
  rL := fun k hk => R.rL k (by simp at hk ⊢; rcases hk with h | h | h <;> simp [h])
  lL := by have := R.lL; omega
  lr := by have := R.lr; simp at this ⊢; omega
  li := by have := R.li; omega
  m := R.m
  n := by show s.n + 1 = _; rw [R.n]; simp; omega
  fp := by
    refine (sortP_perm _).trans ?_
    show (s.ps.map fun p => (p.1, partedI p.2.1 A.length, p.2.2)).Perm _
    rw [psK_same (row := A ++ x :: B) (fun l => partedI l A.length) (fun k _ => by unfold tch; congr 1; simp) fun k _ => pos_part.symm]
    exact R.fp.map _
  fs := by
    refine (sortI_perm _).trans ?_
    show s.sh.Perm _
    rw [shK_same (row := A ++ x :: B) fun k _ => by unfold tch; congr 1; simp]
    exact R.fs
  sp := sort2P _
  ss := sort2I _
/-- start -/
theorem rep_start {f : Nat} (R : Rep N s ins (A ++ B) L h) (hf : f ∉ L) (h0 : h f = 0) : Rep (N + 1) (ledS s (.st, A.length)) ins (A ++ f :: B) (L ++ [f]) h := by
  have fi : f ∉ ins := fun e => hf (R.iL f e)
  have fr : f ∉ A ++ B := fun e => hf (R.rL f e)
  have ne : ∀ k ∈ L, f ≠ k := fun k hk e => hf (e ▸ hk)
  have tL : ∀ k ∈ L, tch ins (A ++ f :: B) k = tch ins (A ++ B) k := fun k hk => by
    have := ne k hk
    unfold tch; congr 1; simp; grind
  have tf : tch ins (A ++ f :: B) f = true := by unfold tch; simp
  rw [List.mem_append, not_or] at fr
  exact {
    nd := List.nodup_append.mpr ⟨R.nd, by simp, fun a ha b hb => by rw [List.mem_singleton.mp hb]; exact (ne a ha).symm⟩
    iL := fun k hk => List.mem_append_left _ (R.iL k hk)
    rL := fun k hk => by
      rw [List.mem_append]
      by_cases e : k = f
      · exact .inr (by simp [e])
      · exact .inl (R.rL k (by simp at hk ⊢; grind))
    lL := by have := R.lL; simp; omega
    lr := by have := R.lr; simp at this ⊢; omega
    li := by have := R.li; omega
    m := R.m
    n := by show s.n + 1 = _; rw [R.n]; simp; omega
    fp := by
      refine (sortP_perm _).trans ?_
      show (s.ps.map (fun p : Pt => (p.1, shiftI p.2.1 A.length 1, p.2.2)) ++ [([], [(A.length : Int)], 0)]).Perm _
      unfold psK
      rw [List.filter_append, List.map_append, List.filter_cons, if_pos tf]
      refine List.Perm.append ?_ ?_
      · have := psK_same (ins := ins) (L := L) (h := h) (row := A ++ B) (row' := A ++ f :: B) (fun l => shiftI l A.length 1) tL fun k hk => pos_start (ne k hk)
        unfold psK at this
        rw [this]
        exact R.fp.map _
      · refine List.Perm.of_eq ?_
        show _ = [(posI ins f, posI (A ++ f :: B) f, h f)]
        rw [pos_fresh fr.1 fr.2, h0, show posI ins f = [] from posF_nil.mpr fi]
    fs := by
      refine (sortI_perm _).trans ?_
      show s.sh.Perm _
      unfold shK
      rw [List.filter_append, List.map_append, List.filter_cons, if_neg (by rw [tf]; simp)]
      have := shK_same (ins := ins) (L := L) (h := h) (row := A ++ B) (row' := A ++ f :: B) tL
      unfold shK at this
      rw [this]
      exact (List.append_nil _).symm ▸ R.fs
    sp := sort2P _
    ss := sort2I _ }
/-- end -/
theorem rep_end (R : Rep N s ins (A ++ x :: B) L h) : Rep N (ledS s (.en, A.length)) ins (A ++ B) L h := by
  have tt : ∀ k, tch ins (A ++ B) k = true → tch ins (A ++ x :: B) k = true := fun k => by unfold tch; simp; grind
  have eP : ∀ k, endP A.length (ptK ins (A ++ x :: B) h k) = if tch ins (A ++ B) k = true then some (ptK ins (A ++ B) h k) else none := fun k => by
    have e : withoutI (posI (A ++ x :: B) k) A.length = posI (A ++ B) k := pos_end
    show (if posI ins k = [] ∧ withoutI (posI (A ++ x :: B) k) A.length = [] then none else some (posI ins k, withoutI (posI (A ++ x :: B) k) A.length, h k)) = _
    rw [e]
    by_cases c : tch ins (A ++ B) k = true
    · rw [if_pos c, if_neg]
      · rfl
      · intro g
        have := tch_nil.mp g
        rw [this] at c
        cases c
    · rw [if_neg c, if_pos (tch_nil.mpr (by simpa using c))]
  have eH : ∀ k, endH A.length (ptK ins (A ++ x :: B) h k) = if (!tch ins (A ++ B) k) = true then some (h k) else none := fun k => by
    have e : withoutI (posI (A ++ x :: B) k) A.length = posI (A ++ B) k := pos_end
    show (if posI ins k = [] ∧ withoutI (posI (A ++ x :: B) k) A.length = [] then some (h k) else none) = _
    rw [e]
    by_cases c : tch ins (A ++ B) k = true
    · rw [if_neg (fun g => by have := tch_nil.mp g; rw [this] at c; cases c), if_neg (by rw [c]; simp)]
    · rw [if_pos (tch_nil.mpr (by simpa using c)), if_pos (by simpa using c)]
  exact {
    nd := R.nd
    iL := R.iL
    rL := fun k hk => R.rL k (by simp at hk ⊢; grind)
    lL := R.lL
    lr := by have := R.lr; simp at this ⊢; omega
    li := R.li
    m := R.m
    n := by show s.n - 1 = _; rw [R.n]; simp; omega
    fp := by
      refine (sortP_perm _).trans ?_
      show (s.ps.filterMap (endP A.length)).Perm _
      refine (R.fp.filterMap _).trans (List.Perm.of_eq ?_)
      unfold psK
      rw [List.filterMap_map, fm_as (f := endP A.length ∘ ptK ins (A ++ x :: B) h) (q := tch ins (A ++ B)) (g := ptK ins (A ++ B) h) fun k _ => eP k, filter_two]
      congr 1
      refine List.filter_congr fun k _ => ?_
      by_cases c : tch ins (A ++ B) k = true
      · rw [c, tt k c]; rfl
      · simp [c]
    fs := by
      refine (sortI_perm _).trans ?_
      show (s.sh ++ s.ps.filterMap (endH A.length)).Perm _
      refine (R.fs.append (R.fp.filterMap _)).trans ?_
      unfold psK shK
      rw [List.filterMap_map, fm_as (f := endH A.length ∘ ptK ins (A ++ x :: B) h) (q := fun k => !tch ins (A ++ B) k) (g := h) fun k _ => eH k, filter_two, ← List.map_append]
      refine List.Perm.map _ ?_
      refine .trans ?_ (List.filter_append_perm (fun k => !tch ins (A ++ x :: B) k) (L.filter fun k => !tch ins (A ++ B) k))
      rw [filter_two, filter_two]
      refine List.Perm.append (List.Perm.of_eq (List.filter_congr fun k _ => ?_)) (List.Perm.of_eq (List.filter_congr fun k _ => ?_))
      · have := tt k
        cases c1 : tch ins (A ++ B) k <;> cases c2 : tch ins (A ++ x :: B) k <;> simp_all
      · cases c1 : tch ins (A ++ B) k <;> cases c2 : tch ins (A ++ x :: B) k <;> rfl
    sp := sort2P _
    ss := sort2I _ }
end
end La
set_option Elab.async false
set_option linter.all false
set_option maxRecDepth 100000
set_option maxHeartbeats 400000
/-! Kp7: a join. -/
namespace La
open PySem L2 PyProof.Rows Pu
theorem flat_perm {α : Type} {f : α → List Int} {l m : List α} (p : l.Perm m) : (l.flatMap f).Perm (m.flatMap f) := List.Perm.flatMap_right f p
theorem sum_perm {l m : List Int} (p : l.Perm m) : l.sum = m.sum := by
  induction p with
  | nil => rfl
  | cons a _ ih => rw [List.sum_cons, List.sum_cons, ih]
  | swap a b l => simp only [List.sum_cons]; omega
  | trans _ _ h1 h2 => exact h1.trans h2
theorem melt_perm {a : Int} {l m : List Pt} (p : l.Perm m) : meltI a l = meltI a m := by
  unfold meltI
  rw [sortI_uniq (flat_perm p), sortI_uniq (flat_perm p), sum_perm (p.map _), p.length_eq]
theorem grown_perm {a : Int} {l m : List Pt} (p : l.Perm m) : (grownI l a).Perm (grownI m a) := by
  unfold grownI
  rw [melt_perm (p.filter _)]
  exact ((p.filter _).append_right _).map _
theorem mem_pos {A B : List Nat} {x k : Nat} : (A.length : Int) ∈ posI (A ++ x :: B) k ↔ x = k := by
  unfold posI
  rw [posF_app, posF, List.mem_append, List.mem_append]
  constructor
  · rintro (h | h | h)
    · have := posF_in h; omega
    · split at h
      · assumption
      · cases h
    · have := posF_in h; omega
  · intro h
    rw [if_pos h]
    exact .inr (.inl (by simp))
theorem flat_map {α β : Type} {f : β → List Int} {g : α → β} : ∀ {l : List α}, (l.map g).flatMap f = l.flatMap fun a => f (g a)
  | [] => rfl
  | a :: l => by rw [List.map_cons, List.flatMap_cons, List.flatMap_cons, flat_map]
section
variable {N : Nat} {s : Sf} {ins A B L : List Nat} {h : Nat → Int} {x y : Nat}
theorem in_lot {k : Nat} : inLot A.length (ptK ins (A ++ x :: y :: B) h k) = decide (k = x ∨ k = y) := by
  have e1 := mem_pos (A := A) (x := x) (B := y :: B) (k := k)
  have e2 := mem_pos (A := A ++ [x]) (x := y) (B := B) (k := k)
  rw [List.append_assoc, List.length_append] at e2
  show (decide ((A.length : Int) ∈ posI (A ++ x :: y :: B) k) || decide ((A.length : Int) + 1 ∈ posI (A ++ x :: y :: B) k)) = _
  rw [Bool.eq_iff_iff, Bool.or_eq_true, decide_eq_true_iff, decide_eq_true_iff, decide_eq_true_iff, e1]
  have e2 : (A.length : Int) + 1 ∈ posI (A ++ x :: y :: B) k ↔ y = k := e2
  rw [e2]
  constructor <;> rintro (h | h) <;> simp [h]
theorem grown_is (R : Rep N s ins (A ++ x :: y :: B) L h) {M : List Nat} (hM : M.Nodup) (mM : ∀ k, k ∈ M ↔ k = x ∨ k = y) : (grownI s.ps A.length).Perm
    (((L.filter (tch ins (A ++ x :: y :: B))).filter fun k => !decide (k = x ∨ k = y)).map (fun k => (posI ins k, withoutI (posI (A ++ x :: y :: B) k) (A.length + 1), h k)) ++ [(sortI (M.flatMap (posI ins)), withoutI (sortI (M.flatMap (posI (A ++ x :: y :: B)))) (A.length + 1), (M.map h).sum + if M.length = 1 then 1 else 0)]) := by
  refine (grown_perm R.fp).trans (List.Perm.of_eq ?_)
  unfold grownI psK
  rw [List.filter_map, List.filter_map]
  have c1 : (fun p => !inLot A.length p) ∘ ptK ins (A ++ x :: y :: B) h = fun k => !decide (k = x ∨ k = y) := funext fun k => by show (!inLot _ _) = _; rw [in_lot]
  have c2 : inLot A.length ∘ ptK ins (A ++ x :: y :: B) h = fun k => decide (k = x ∨ k = y) := funext fun k => in_lot
  rw [c1, c2]
  have pm : ((L.filter (tch ins (A ++ x :: y :: B))).filter fun k => decide (k = x ∨ k = y)).Perm M := by
    refine (List.perm_ext_iff_of_nodup ((R.nd.filter _).filter _) hM).mpr fun k => ?_
    rw [List.mem_filter, List.mem_filter, mM, decide_eq_true_iff]
    constructor
    · exact fun h => h.2
    · intro hk
      have kr : k ∈ A ++ x :: y :: B := by rcases hk with h | h <;> simp [h]
      exact ⟨⟨R.rL k kr, by unfold tch; rw [decide_eq_true kr, Bool.or_true]⟩, hk⟩
  rw [melt_perm (pm.map _)]
  rw [List.map_append, List.map_map]
  congr 1
  unfold meltI
  rw [flat_map, flat_map, List.map_map, List.length_map]
  rfl
theorem app2 {a b : List Nat} {x y : Nat} : (a ++ [x]) ++ y :: b = a ++ x :: y :: b := by simp
/-- one surface, joined to itself -/
theorem rep_join1 (R : Rep N s ins (A ++ x :: x :: B) L h) : Rep N (ledS s (.jo, A.length)) ins (A ++ x :: B) L fun k => if k = x then h x + 1 else h k := by
  have tt : ∀ k, tch ins (A ++ x :: B) k = tch ins (A ++ x :: x :: B) k := fun k => by unfold tch; congr 1; simp
  have hx : x ∈ A ++ x :: x :: B := by simp
  have tx : tch ins (A ++ x :: x :: B) x = true := by unfold tch; rw [decide_eq_true hx, Bool.or_true]
  have pe : ∀ k, posI (A ++ x :: B) k = withoutI (posI (A ++ x :: x :: B) k) (A.length + 1) := fun k => by
    have z := pos_end (A := A ++ [x]) (x := x) (B := B) (k := k)
    rw [app2, List.length_append, List.append_assoc] at z
    exact z.symm
  have srt : ∀ l : List Nat, sortI (posI l x) = posI l x := fun l => sortI_is (.refl _) posF_up
  exact {
    nd := R.nd
    iL := R.iL
    rL := fun k hk => R.rL k (by simp at hk ⊢; grind)
    lL := R.lL
    lr := by have := R.lr; simp at this ⊢; omega
    li := R.li
    m := R.m
    n := by show s.n - 1 = _; rw [R.n]; simp; omega
    fp := by
      refine (sortP_perm _).trans ?_
      show (grownI s.ps A.length).Perm _
      refine (grown_is R (M := [x]) (by simp) (by simp)).trans ?_
      have pL : (L.filter (tch ins (A ++ x :: B))).Perm (((L.filter (tch ins (A ++ x :: x :: B))).filter fun k => !decide (k = x ∨ k = x)) ++ [x]) := by
        refine (List.perm_ext_iff_of_nodup (R.nd.filter _) (List.nodup_append.mpr ⟨(R.nd.filter _).filter _, by simp, fun a ha b hb => ?_⟩)).mpr fun k => ?_
        · rw [List.mem_filter] at ha
          rw [List.mem_singleton] at hb
          have := ha.2
          simp at this
          rw [hb]; exact this
        · rw [List.mem_append, List.mem_filter, List.mem_filter, List.mem_filter, List.mem_singleton, tt]
          by_cases e : k = x
          · subst e; simp [tx, R.rL k hx]
          · simp [e]
      refine .trans ?_ (pL.map _).symm
      rw [List.map_append]
      refine List.Perm.append (List.Perm.of_eq (List.map_congr_left fun k hk => ?_)) (List.Perm.of_eq ?_)
      · have := (List.mem_filter.mp hk).2
        simp at this
        show _ = (posI ins k, posI (A ++ x :: B) k, if k = x then h x + 1 else h k)
        rw [pe, if_neg this]
      · show _ = [(posI ins x, posI (A ++ x :: B) x, if x = x then h x + 1 else h x)]
        rw [pe, if_pos rfl]
        simp [srt]
    fs := by
      refine (sortI_perm _).trans ?_
      show s.sh.Perm _
      refine R.fs.trans (List.Perm.of_eq ?_)
      unfold shK
      rw [List.filter_congr (q := fun k => !tch ins (A ++ x :: B) k) fun k _ => by rw [tt]]
      refine List.map_congr_left fun k hk => ?_
      have := (List.mem_filter.mp hk).2
      rw [if_neg fun e => by rw [e, tt, tx] at this; cases this]
    sp := sort2P _
    ss := sort2I _ }
/-- two surfaces joined: c is lost in d -/
theorem rep_join2 {c d : Nat} (R : Rep N s ins (A ++ x :: y :: B) L h) (hcd : c ≠ d) (ho : (c = x ∧ d = y) ∨ (c = y ∧ d = x)) :
    Rep N (ledS s (.jo, A.length)) (ins.map (ren c d)) (A.map (ren c d) ++ d :: B.map (ren c d)) (L.filter fun k => !decide (k = c)) fun k => if k = d then h c + h d else h k := by
  have mxy : ∀ k, k = x ∨ k = y ↔ k = c ∨ k = d := fun k => by rcases ho with ⟨rfl, rfl⟩ | ⟨rfl, rfl⟩ <;> grind
  have hc : c ∈ A ++ x :: y :: B := by rcases ho with ⟨rfl, rfl⟩ | ⟨rfl, rfl⟩ <;> simp
  have hd : d ∈ A ++ x :: y :: B := by rcases ho with ⟨rfl, rfl⟩ | ⟨rfl, rfl⟩ <;> simp
  have tc : tch ins (A ++ x :: y :: B) c = true := by unfold tch; rw [decide_eq_true hc, Bool.or_true]
  have td : tch ins (A ++ x :: y :: B) d = true := by unfold tch; rw [decide_eq_true hd, Bool.or_true]
  have hd' : d ∈ A.map (ren c d) ++ d :: B.map (ren c d) := by simp
  have td' : tch (ins.map (ren c d)) (A.map (ren c d) ++ d :: B.map (ren c d)) d = true := by unfold tch; rw [decide_eq_true hd', Bool.or_true]
  have rm : (A ++ x :: y :: B).map (ren c d) = A.map (ren c d) ++ d :: d :: B.map (ren c d) := by
    rw [List.map_append, List.map_cons, List.map_cons]
    congr 2
    · rcases ho with ⟨rfl, rfl⟩ | ⟨rfl, rfl⟩
      · rw [ren, if_pos rfl]
      · rw [ren, if_neg (Ne.symm hcd)]
    · congr 1
      rcases ho with ⟨rfl, rfl⟩ | ⟨rfl, rfl⟩
      · rw [ren, if_neg (Ne.symm hcd)]
      · rw [ren, if_pos rfl]
  have pe : ∀ k, posI (A.map (ren c d) ++ d :: B.map (ren c d)) k = withoutI (posI ((A ++ x :: y :: B).map (ren c d)) k) (A.length + 1) := fun k => by
    have z := pos_end (A := A.map (ren c d) ++ [d]) (x := d) (B := B.map (ren c d)) (k := k)
    rw [app2, List.length_append, List.append_assoc, List.length_map] at z
    rw [rm]
    exact z.symm
  have pn : ∀ (l : List Nat) k, k ≠ c → k ≠ d → posI (l.map (ren c d)) k = posI l k := fun l k h1 h2 => posF_ren_ne h1 h2
  have pd : ∀ l : List Nat, posI (l.map (ren c d)) d = sortI (posI l c ++ posI l d) := fun l => (sortI_is (posF_ren hcd).symm posF_up).symm
  have mr : ∀ k, k ≠ c → k ≠ d → (k ∈ A.map (ren c d) ++ d :: B.map (ren c d) ↔ k ∈ A ++ x :: y :: B) := fun k h1 h2 => by
    have n1 : ¬ (k = x ∨ k = y) := fun e => by have := (mxy k).mp e; grind
    rw [List.mem_append, List.mem_cons, mem_ren hcd, mem_ren hcd]
    simp
    grind
  have tn : ∀ k, k ≠ c → k ≠ d → tch (ins.map (ren c d)) (A.map (ren c d) ++ d :: B.map (ren c d)) k = tch ins (A ++ x :: y :: B) k := fun k h1 h2 => by
    unfold tch
    rw [Bool.eq_iff_iff, Bool.or_eq_true, Bool.or_eq_true, decide_eq_true_iff, decide_eq_true_iff, decide_eq_true_iff, decide_eq_true_iff, mr k h1 h2, mem_ren hcd]
    grind
  have dL : d ∈ L := R.rL d hd
  exact {
    nd := R.nd.filter _
    iL := fun k hk => by
      rw [mem_ren hcd] at hk
      rw [List.mem_filter]
      rcases hk with ⟨h1, h2⟩ | ⟨h1, _⟩
      · exact ⟨R.iL k h2, by simpa using h1⟩
      · rw [h1]; exact ⟨dL, by simpa using Ne.symm hcd⟩
    rL := fun k hk => by
      rw [List.mem_filter]
      by_cases e : k = d
      · rw [e]; exact ⟨dL, by simpa using Ne.symm hcd⟩
      · have kc : k ≠ c := fun e2 => by
          rw [List.mem_append, List.mem_cons, mem_ren hcd, mem_ren hcd] at hk
          grind
        exact ⟨R.rL k ((mr k kc e).mp hk), by simpa using kc⟩
    lL := Nat.le_trans (List.length_filter_le _ _) R.lL
    lr := by have := R.lr; simp at this ⊢; omega
    li := by have := R.li; simp at this ⊢; omega
    m := by show s.m = _; rw [R.m]; simp
    n := by show s.n - 1 = _; rw [R.n]; simp; omega
    fp := by
      refine (sortP_perm _).trans ?_
      show (grownI s.ps A.length).Perm _
      refine (grown_is R (M := [c, d]) (by simp [hcd]) (fun k => by rw [mxy]; simp)).trans ?_
      have pL : ((L.filter fun k => !decide (k = c)).filter (tch (ins.map (ren c d)) (A.map (ren c d) ++ d :: B.map (ren c d)))).Perm (((L.filter (tch ins (A ++ x :: y :: B))).filter fun k => !decide (k = x ∨ k = y)) ++ [d]) := by
        refine (List.perm_ext_iff_of_nodup ((R.nd.filter _).filter _) (List.nodup_append.mpr ⟨(R.nd.filter _).filter _, by simp, fun a ha b hb => ?_⟩)).mpr fun k => ?_
        · rw [List.mem_filter] at ha
          rw [List.mem_singleton] at hb
          have := ha.2
          simp only [mxy] at this
          simp at this
          rw [hb]; exact this.2
        · rw [List.mem_append, List.mem_filter, List.mem_filter, List.mem_filter, List.mem_filter, List.mem_singleton]
          simp only [mxy]
          by_cases e1 : k = c
          · subst e1; simp [hcd]
          · by_cases e2 : k = d
            · subst e2; simp [td', dL, e1]
            · rw [tn k e1 e2]; simp [e1, e2]
      refine .trans ?_ (pL.map _).symm
      rw [List.map_append]
      refine List.Perm.append (List.Perm.of_eq (List.map_congr_left fun k hk => ?_)) (List.Perm.of_eq ?_)
      · have := (List.mem_filter.mp hk).2
        simp only [mxy] at this
        simp at this
        show _ = (posI (ins.map (ren c d)) k, posI (A.map (ren c d) ++ d :: B.map (ren c d)) k, if k = d then h c + h d else h k)
        rw [pe, if_neg this.2, pn _ k this.1 this.2, pn _ k this.1 this.2]
      · show _ = [(posI (ins.map (ren c d)) d, posI (A.map (ren c d) ++ d :: B.map (ren c d)) d, if d = d then h c + h d else h d)]
        rw [pe, if_pos rfl, pd, pd]
        simp
    fs := by
      refine (sortI_perm _).trans ?_
      show s.sh.Perm _
      refine R.fs.trans (List.Perm.of_eq ?_)
      unfold shK
      rw [filter_two]
      have e : (L.filter fun a => (!tch (ins.map (ren c d)) (A.map (ren c d) ++ d :: B.map (ren c d)) a) && !decide (a = c)) = L.filter fun k => !tch ins (A ++ x :: y :: B) k := by
        refine List.filter_congr fun k _ => ?_
        by_cases e1 : k = c
        · rw [e1, tc]; simp
        · by_cases e2 : k = d
          · rw [e2, td, td']; simp
          · rw [tn k e1 e2]; simp [e1]
      rw [e]
      refine List.map_congr_left fun k hk => ?_
      have := (List.mem_filter.mp hk).2
      rw [if_neg fun e => by rw [e, td] at this; cases this]
    sp := sort2P _
    ss := sort2I _ }
end
end La
set_option Elab.async false
set_option linter.all false
set_option maxRecDepth 100000
set_option maxHeartbeats 400000
/-! Kp8: surfaces along words. -/
namespace La
open PySem L2 PyProof.Rows Pu
theorem rep_mono {N M : Nat} {s : Sf} {ins row L : List Nat} {h : Nat → Int} (R : Rep N s ins row L h) (hM : N ≤ M) : Rep M s ins row L h :=
  { R with lL := by have := R.lL; omega, lr := by have := R.lr; omega, li := by have := R.li; omega }
theorem rep_h {N : Nat} {s : Sf} {ins row L : List Nat} {h h' : Nat → Int} (R : Rep N s ins row L h) (e : ∀ k ∈ L, h' k = h k) : Rep N s ins row L h' :=
  { R with
    fp := by
      have : psK ins row L h' = psK ins row L h := by
        unfold psK
        refine List.map_congr_left fun k hk => ?_
        show (_, _, _) = (_, _, _)
        rw [e k (List.mem_filter.mp hk).1]
      rw [this]; exact R.fp
    fs := by
      have : shK ins row L h' = shK ins row L h := by
        unfold shK
        exact List.map_congr_left fun k hk => e k (List.mem_filter.mp hk).1
      rw [this]; exact R.fs }
theorem split0 {α : Type} {l : List α} {i : Nat} (h : i ≤ l.length) : ∃ A B, l = A ++ B ∧ A.length = i := ⟨l.take i, l.drop i, (List.take_append_drop i l).symm, by simp; omega⟩
theorem split1 {α : Type} {l : List α} {i : Nat} (h : i < l.length) : ∃ A x B, l = A ++ x :: B ∧ A.length = i := by
  obtain ⟨A, B, rfl, e⟩ := split0 (Nat.le_of_lt h)
  cases B with
  | nil => simp at h; omega
  | cons x B => exact ⟨A, x, B, rfl, e⟩
theorem split2 {α : Type} {l : List α} {i : Nat} (h : i + 1 < l.length) : ∃ A x y B, l = A ++ x :: y :: B ∧ A.length = i := by
  obtain ⟨A, x, B, rfl, e⟩ := split1 (show i < l.length by omega)
  cases B with
  | nil => simp at h; omega
  | cons y B => exact ⟨A, x, y, B, rfl, e⟩
theorem above (L : List Nat) : ∃ f, ∀ k ∈ L, k < f := by
  induction L with
  | nil => exact ⟨0, fun k h => by cases h⟩
  | cons a L ih =>
    obtain ⟨f, hf⟩ := ih
    exact ⟨max f (a + 1), fun k h => by
      rcases List.mem_cons.mp h with rfl | h
      · omega
      · have := hf k h; omega⟩
theorem nat_of {a : Int} (h : 0 ≤ a) : ∃ i : Nat, a = i := ⟨a.toNat, by omega⟩
theorem rep_step {N : Nat} {s : Sf} {ins row L : List Nat} {h : Nat → Int} {q : Pc} (R : Rep N s ins row L h) (hf : fitsI s.n q = true) : ∃ ins' row' L' h', Rep (N + 1) (ledS s q) ins' row' L' h' := by
  obtain ⟨k, a⟩ := q
  have hn := R.n
  cases k with
  | st =>
    simp [fitsI] at hf
    obtain ⟨i, rfl⟩ := nat_of hf.1
    obtain ⟨A, B, rfl, rfl⟩ := split0 (show i ≤ row.length by omega)
    obtain ⟨f, hL⟩ := above L
    have fL : f ∉ L := fun e => by have := hL f e; omega
    exact ⟨_, _, _, _, rep_start (f := f) (rep_h R (h' := fun k => if k = f then 0 else h k) fun k hk => if_neg fun e : k = f => fL (by rw [← e]; exact hk)) fL (if_pos rfl)⟩
  | en =>
    simp [fitsI] at hf
    obtain ⟨i, rfl⟩ := nat_of hf.1
    obtain ⟨A, x, B, rfl, rfl⟩ := split1 (show i < row.length by omega)
    exact ⟨_, _, _, _, rep_mono (rep_end R) (by omega)⟩
  | pa =>
    simp [fitsI] at hf
    obtain ⟨i, rfl⟩ := nat_of hf.1
    obtain ⟨A, x, B, rfl, rfl⟩ := split1 (show i < row.length by omega)
    exact ⟨_, _, _, _, rep_part R⟩
  | sw =>
    simp [fitsI] at hf
    obtain ⟨i, rfl⟩ := nat_of hf.1
    obtain ⟨A, x, y, B, rfl, rfl⟩ := split2 (show i + 1 < row.length by omega)
    exact ⟨_, _, _, _, rep_mono (rep_swap R) (by omega)⟩
  | jo =>
    simp [fitsI] at hf
    obtain ⟨i, rfl⟩ := nat_of hf.1
    obtain ⟨A, x, y, B, rfl, rfl⟩ := split2 (show i + 1 < row.length by omega)
    by_cases e : x = y
    · subst e; exact ⟨_, _, _, _, rep_mono (rep_join1 R) (by omega)⟩
    · exact ⟨_, _, _, _, rep_mono (rep_join2 R e (.inl ⟨rfl, rfl⟩)) (by omega)⟩
  | tu => simp [fitsI] at hf
def plainS (r : Int) : Sf := ⟨r, r, (rngI r).map fun x => ([x], [x], 0), []⟩
def surfBy (r : Int) (w : List Pc) : Sf := w.foldl ledS (plainS r)
def endI (r : Int) (w : List Pc) : Int := w.foldl behindI r
theorem led_n {s : Sf} {q : Pc} : (ledS s q).n = behindI s.n q := rfl
theorem surf_n {r : Int} {w : List Pc} : (surfBy r w).n = endI r w := by
  unfold surfBy endI
  have : ∀ (w : List Pc) (s : Sf), (w.foldl ledS s).n = w.foldl behindI s.n := fun w => by
    induction w with
    | nil => intro s; rfl
    | cons q w ih => intro s; exact ih (ledS s q)
  exact this w (plainS r)
theorem end_snoc {r : Int} {w : List Pc} {q : Pc} : endI r (w ++ [q]) = behindI (endI r w) q := by unfold endI; rw [List.foldl_append]; rfl
theorem surf_snoc {r : Int} {w : List Pc} {q : Pc} : surfBy r (w ++ [q]) = ledS (surfBy r w) q := by unfold surfBy; rw [List.foldl_append]; rfl
theorem along_last {r : Int} {w : List Pc} : ∀ {xs : List Int}, alongI r w = some xs → xs.getLastD 0 = endI r w := by
  refine snocI (P := fun w => ∀ {xs : List Int}, alongI r w = some xs → xs.getLastD 0 = endI r w) ?_ ?_ w
  · intro xs h; cases h; rfl
  · intro w q ih xs h
    rw [along_snoc] at h
    cases e : alongI r w with
    | none => rw [e] at h; cases h
    | some ys =>
      rw [e, stepA, Option.bind_some, ih e] at h
      split at h
      · cases h
        rw [end_snoc, List.getLastD_eq_getLast?, List.getLast?_concat]
        rfl
      · cases h
theorem along_inv {r : Int} {w : List Pc} {q : Pc} {xs : List Int} (h : alongI r (w ++ [q]) = some xs) : ∃ ys, alongI r w = some ys ∧ fitsI (endI r w) q = true ∧ xs = ys ++ [behindI (endI r w) q] := by
  rw [along_snoc] at h
  cases e : alongI r w with
  | none => rw [e] at h; cases h
  | some ys =>
    rw [e, stepA, Option.bind_some, along_last e] at h
    split at h
    · cases h; exact ⟨ys, rfl, by assumption, rfl⟩
    · cases h
theorem along_pre {r : Int} {w v : List Pc} {xs : List Int} (h : alongI r (w ++ v) = some xs) : ∃ ys, alongI r w = some ys := by
  cases e : alongI r w with
  | none => rw [along_app e] at h; cases h
  | some ys => exact ⟨ys, rfl⟩
theorem pos_range {n k : Nat} (h : k < n) : posI (List.range n) k = [(k : Int)] := by
  obtain ⟨A, x, B, e, hA⟩ := split1 (show k < (List.range n).length by simpa using h)
  have ex : (List.range n)[k]? = some x := by rw [e, List.getElem?_append_right (by omega), hA]; simp
  rw [List.getElem?_range h] at ex
  cases ex
  have nd : (List.range n).Nodup := List.nodup_range
  rw [e] at nd ⊢
  rw [List.nodup_append] at nd
  obtain ⟨_, n2, n3⟩ := nd
  rw [pos_fresh (fun h => n3 k h k List.mem_cons_self rfl) (List.nodup_cons.mp n2).1, hA]
theorem plain_sp {r : Int} (h0 : 0 ≤ r) (h1 : r ≤ 8) : sortP (plainS r).ps = (plainS r).ps := by
  have : r = 0 ∨ r = 1 ∨ r = 2 ∨ r = 3 ∨ r = 4 ∨ r = 5 ∨ r = 6 ∨ r = 7 ∨ r = 8 := by omega
  rcases this with rfl | rfl | rfl | rfl | rfl | rfl | rfl | rfl | rfl <;> kernel_rfl
theorem rep_plain {n : Nat} (hn : n ≤ 8) : Rep n (plainS n) (List.range n) (List.range n) (List.range n) fun _ => 0 where
  nd := List.nodup_range
  iL := fun k h => h
  rL := fun k h => h
  lL := by simp
  lr := by simp
  li := by simp
  m := by simp [plainS]
  n := by simp [plainS]
  fp := by
    refine List.Perm.of_eq ?_
    have t : ∀ k ∈ List.range n, tch (List.range n) (List.range n) k = true := fun k h => by unfold tch; rw [decide_eq_true h, Bool.true_or]
    unfold psK
    rw [List.filter_eq_self.mpr t]
    show (rngI n).map _ = _
    unfold rngI
    rw [List.map_map, Int.toNat_natCast]
    refine List.map_congr_left fun k h => ?_
    show _ = (posI (List.range n) k, posI (List.range n) k, 0)
    rw [pos_range (List.mem_range.mp h)]
    rfl
  fs := by
    refine List.Perm.of_eq ?_
    have t : (List.range n).filter (fun k => !tch (List.range n) (List.range n) k) = [] := List.filter_eq_nil_iff.mpr fun k h => by unfold tch; rw [decide_eq_true h, Bool.true_or]; simp
    unfold shK
    rw [t]; rfl
  sp := plain_sp (by omega) (by omega)
  ss := rfl
theorem rep_word {n : Nat} (hn : n ≤ 8) {w : List Pc} : ∀ {xs : List Int}, alongI n w = some xs → ∃ ins row L h, Rep (8 + w.length) (surfBy n w) ins row L h := by
  refine snocI (P := fun w => ∀ {xs : List Int}, alongI n w = some xs → ∃ ins row L h, Rep (8 + w.length) (surfBy n w) ins row L h) ?_ ?_ w
  · intro xs _; exact ⟨_, _, _, _, rep_mono (rep_plain hn) (by omega)⟩
  · intro w q ih xs h
    obtain ⟨ys, h1, h2, _⟩ := along_inv h
    obtain ⟨ins, row, L, hh, R⟩ := ih h1
    rw [surf_snoc, List.length_append]
    exact rep_step R (by rw [surf_n]; exact h2)
theorem word_sz {r : Int} {w : List Pc} {xs : List Int} (h0 : 0 ≤ r) (h1 : r ≤ 8) (hw : w.length ≤ 400) (h : alongI r w = some xs) : SzS (surfBy r w) := by
  obtain ⟨n, rfl⟩ := nat_of h0
  obtain ⟨_, _, _, _, R⟩ := rep_word (by omega) h
  exact rep_sz R (by omega)
end La
set_option Elab.async false
set_option linter.all false
set_option maxRecDepth 100000
set_option maxHeartbeats 400000
/-! Kp9: surfaces along words, walked. -/
namespace La
open PySem L2 PyProof.Rows Pu
theorem plain_in {r : Int} (h0 : 0 ≤ r) (h1 : r ≤ 8) : resV (p_plain_in [.frz (.int r)]) = some (.fz (surfE (plainS r))) := by
  refine pf_ans ?_
  unfold m_plain_in
  have e := rg1 (n := r) h0 (by omega)
  simp
  refine wd_compF (rngI r) PyData.int (fun x => partE ([x], [x], 0)) (ρ1 := [some (.frz (.int r)), none]) (by simp [e]) (lim_of (by simp [rngI]; omega)) (fun x hx => ?_) ?_
  · simp [wipeE, over, tup1, tup3]
    rfl
  · simp [tup_list, tup0, tup4]
    unfold surfE plainS
    rw [List.map_map]
    rfl
theorem x_put2 {d : D} {a b c : Option Sl} {x : D} : True := trivial
def Isb (r : Int) (w l1 : List Pc) (ρ : Ev) : Prop := ∃ x, ni x = true ∧ ρ = [some (.frz (.int r)), some (.frz (wrdD w)), some (.frz (surfE (surfBy r l1))), x]
theorem surface_by {r : Int} {w : List Pc} {xs : List Int} (h0 : 0 ≤ r) (h1 : r ≤ 8) (hw : w.length ≤ 400) (h : alongI r w = some xs) : resV (p_surface_by [.frz (.int r), .frz (wrdD w)]) = some (.fz (surfE (surfBy r w))) := by
  refine pf_ans ?_
  unfold m_surface_by
  simp [plain_in h0 h1]
  refine wd_forF w pcD (Isb r w) (ρ1 := [some (.frz (.int r)), some (.frz (wrdD w)), some (.frz (surfE (plainS r))), none]) (by simp [wrdD]) ⟨none, rfl, rfl⟩ (fun l1 q l2 ρ el ⟨x, hx, e⟩ => ?_) fun ρ ⟨x, hx, e⟩ => ?_
  · subst e
    have z : SzS (surfBy r l1) := by
      rw [el] at h
      obtain ⟨ys, e⟩ := along_pre h
      exact word_sz h0 h1 (by have := congrArg List.length el; simp at this; omega) e
    have B := led_by (q := q) z
    simp [hx, B]
    exact ⟨some (.frz (pcD q)), rfl, by rw [surf_snoc]⟩
  · subst e
    simp
theorem need_rims {r : Int} (h0 : 0 ≤ r) (h1 : r ≤ 8) : resV (p_need_rims [.frz (.int r)]) = some (.fz .none) := by
  refine pf_next ?_
  unfold m_need_rims
  have z : resV (p_need_whole [.frz (.int r), .frz (.int 0), .frz (.int 8)]) = some (.fz .none) := by
    refine pf_next ?_
    unfold m_need_whole
    simp [is_whole, wholeD, h0, h1]
  simp [z]
def goodB (r : Int) (w : List Pc) : Bool := match alongI r w with
  | some xs => decide (∀ x ∈ xs, x ≤ 20) && decide (endI r w ≤ 8)
  | none => false
theorem wrd_tup {w : List Pc} (hw : w.length ≤ 400) : tupD (wrdD w) 0 400 = true := by
  unfold tupD wrdD
  simp
  omega
theorem is_tI_none {l : List Int} : fIs true (tI l) .none = some (.fz (.bool true)) := rfl
theorem is_n_none : fIs true .none .none = some (.fz (.bool false)) := rfl
theorem word_from {r : Int} {w : List Pc} (hw : w.length ≤ 400) : resV (p_is_word_from [.frz (.int r), .frz (wrdD w)]) = some (.fz (.bool (goodB r w))) := by
  refine pf_ans ?_
  unfold m_is_word_from
  have T := wrd_tup hw
  have R := rims_of (r := r) hw
  unfold rimsD at R
  unfold goodB
  cases e : alongI r w with
  | none =>
    rw [e] at R
    simp [is_tuple_of, T, R, is_n_none]
  | some xs =>
    rw [e] at R
    by_cases c : ∀ x ∈ xs, x ≤ 20
    · have la := (last_at (along_ne e)).2
      rw [along_last e] at la
      simp only [if_pos c] at R
      simp [is_tuple_of, T, R, is_tI_none, la]
      exact fun _ => c
    · simp only [if_neg c] at R
      simp [is_tuple_of, T, R, is_n_none]
      intro g; exact absurd g c
theorem need_word {r : Int} {w : List Pc} (hw : w.length ≤ 400) (h : goodB r w = true) : resV (p_need_word [.frz (.int r), .frz (wrdD w)]) = some (.fz .none) := by
  refine pf_next ?_
  unfold m_need_word
  simp [word_from hw, h]
theorem need_word_x {r : Int} {w : List Pc} (hw : w.length ≤ 400) (h : goodB r w = false) : resX (p_need_word [.frz (.int r), .frz (wrdD w)]) = some ⟨"InvalidWord", none⟩ := by
  refine pf_raise ?_
  unfold m_need_word
  simp [word_from hw, h]
section
variable {r : Int} {w v : List Pc} (h0 : 0 ≤ r) (h1 : r ≤ 8) (hw : w.length ≤ 400)
include h0 h1 hw
theorem piece_word : resV (p_is_piece_word [.frz (.int r), .frz (wrdD w)]) = some (.fz (.bool (goodB r w))) := by
  refine pf_ans ?_
  unfold m_is_piece_word
  simp [need_rims h0 h1, word_from hw]
theorem good_along (h : goodB r w = true) : ∃ xs, alongI r w = some xs ∧ (∀ x ∈ xs, x ≤ 20) ∧ endI r w ≤ 8 := by
  unfold goodB at h
  cases e : alongI r w with
  | none => rw [e] at h; cases h
  | some xs =>
    rw [e] at h
    simp at h
    exact ⟨xs, rfl, h.1, h.2⟩
theorem rims_along (h : goodB r w = true) : resV (p_rims_along [.frz (.int r), .frz (wrdD w)]) = some (.fz (rimsD r w)) := by
  refine pf_ans ?_
  unfold m_rims_along
  simp [need_rims h0 h1, need_word hw h, rims_of hw]
theorem surface_of (h : goodB r w = true) : resV (p_surface_of_word [.frz (.int r), .frz (wrdD w)]) = some (.fz (surfE (surfBy r w))) := by
  obtain ⟨xs, e, _⟩ := good_along h0 h1 hw h
  refine pf_ans ?_
  unfold m_surface_of_word
  simp [need_rims h0 h1, need_word hw h, surface_by h0 h1 hw e]
theorem rims_along_x (h : goodB r w = false) : resX (p_rims_along [.frz (.int r), .frz (wrdD w)]) = some ⟨"InvalidWord", none⟩ := by
  refine pf_raise ?_
  unfold m_rims_along
  simp [need_rims h0 h1, need_word_x hw h]
theorem surface_of_x (h : goodB r w = false) : resX (p_surface_of_word [.frz (.int r), .frz (wrdD w)]) = some ⟨"InvalidWord", none⟩ := by
  refine pf_raise ?_
  unfold m_surface_of_word
  simp [need_rims h0 h1, need_word_x hw h]
theorem alike_words (hv : v.length ≤ 400) (h : goodB r w = true) (g : goodB r v = true) : resV (p_are_alike_words [.frz (.int r), .frz (wrdD w), .frz (wrdD v)]) = some (.fz (.bool (PyData.eqv (surfE (surfBy r w)) (surfE (surfBy r v))))) := by
  obtain ⟨xs, e, _⟩ := good_along h0 h1 hw h
  obtain ⟨ys, f, _⟩ := good_along h0 h1 hv g
  refine pf_ans ?_
  unfold m_are_alike_words
  simp [need_rims h0 h1, need_word hw h, need_word hv g, surface_by h0 h1 hw e, surface_by h0 h1 hv f, eq_surf]
end
/-! ### the law's own judge -/
def aloD (r : Int) (w : List Pc) : D := match alongI r w with
  | some xs => tI xs
  | none => .none
def Ial (r : Int) (w l1 : List Pc) (ρ : Ev) : Prop := ∃ xs x3 x4 x5, alongI r l1 = some xs ∧ ni x3 = true ∧ ni x4 = true ∧ ni x5 = true ∧ ρ = [some (.frz (.int r)), some (.frz (wrdD w)), some (.own (xs.map PyData.int)), x3, x4, x5]
theorem law_along {r : Int} {w : List Pc} (hw : w.length ≤ 400) : resV (p__law_along [.frz (.int r), .frz (wrdD w)]) = some (.fz (aloD r w)) := by
  refine pf_ans ?_
  unfold m__law_along
  simp [lst1]
  refine wd_forFR w pcD (Ial r w) (ρ1 := [some (.frz (.int r)), some (.frz (wrdD w)), some (.own [.int r]), none, none, none]) (by simp [wrdD]) ⟨[r], none, none, none, rfl, rfl, rfl, rfl, rfl⟩ (fun l1 q l2 ρ el ⟨xs, x3, x4, x5, ea, h3, h4, h5, e⟩ => ?_) fun ρ ⟨xs, x3, x4, x5, ea, h3, h4, h5, e⟩ => ?_
  · subst e
    have la := (last_at (along_ne ea)).1
    have ll := along_len ea
    have lw := congrArg List.length el
    simp at lw
    have sn := along_snoc (r := r) (w := l1) (q := q)
    rw [ea] at sn
    simp only [stepA, Option.bind_some] at sn
    generalize hg : xs.getLastD 0 = g at *
    have fin : fitsI g q = true → ∀ d, d = behindI g q → Ial r w (l1 ++ [q]) [some (.frz (.int r)), some (.frz (wrdD w)), some (.own (xs.map PyData.int ++ [.int d])), some (.frz (.str (kS q.1))), some (.frz (.int q.2)), some (.frz (.int g))] := fun hf d hd => by
      rw [if_pos hf] at sn
      exact ⟨_, some (.frz (.str (kS q.1))), some (.frz (.int q.2)), some (.frz (.int g)), sn, rfl, rfl, rfl, by simp [hd]⟩
    have bad : fitsI g q = false → PyData.none = aloD r w := fun hf => by
      rw [if_neg (by simp [hf])] at sn
      have z : alongI r w = none := by
        rw [el, show l1 ++ q :: l2 = (l1 ++ [q]) ++ l2 by simp]
        exact along_app sn
      unfold aloD
      rw [z]
    have ad : ∀ d : Int, fAdd (.list (xs.map PyData.int)) (.list [.int d]) = some (.fr (xs.map PyData.int ++ [.int d])) := fun d => add_ls (by simp; omega)
    generalize hp : fItem (.list (xs.map PyData.int)) (.int (-1)) = fi at la
    subst la
    obtain ⟨k, a⟩ := q
    simp [x_asg_pc, h3, h4, h5, hp, -item_l, allL, in_allL, spL, ejL, jsL, in_spL, in_ejL, in_jsL, eq_st, lst1, ad]
    cases k
    case tu => simp; exact bad rfl
    all_goals
      simp
      refine ⟨fun h => bad (by simp [fitsI]; omega), fun h => ⟨fun h2 => bad (by simp [fitsI]; omega), fun h2 => fin (by simp [fitsI]; omega) _ (by simp [behindI]; try omega)⟩⟩
  · subst e
    simp [aloD, ea, tup_list, tI_def]
end La
set_option Elab.async false
set_option linter.all false
set_option maxRecDepth 100000
set_option maxHeartbeats 600000
/-! Kp10: the law's own gluing: one piece. -/
namespace La
open PySem L2 PyProof.Rows Pu
def nD (k : Nat) : D := .int k
def oD : Option Int → D
  | none => .none
  | some i => .int i
theorem posF_count : ∀ {l : List Nat} {i : Int} {k : Nat}, (posF i l k).length = l.count k
  | [], i, k => rfl
  | x :: l, i, k => by
    rw [posF, List.length_append, posF_count, List.count_cons]
    by_cases h : x = k
    · simp [h]; omega
    · simp [h]
theorem count_ren {c d : Nat} (h : c ≠ d) {l : List Nat} : (l.map (ren c d)).count d = l.count c + l.count d := by
  have := (posF_ren h (xs := l) (i := 0)).length_eq
  rw [List.length_append, posF_count, posF_count, posF_count] at this
  exact this
theorem count_ren_ne {c d k : Nat} (h1 : k ≠ c) (h2 : k ≠ d) {l : List Nat} : (l.map (ren c d)).count k = l.count k := by
  have := congrArg List.length (posF_ren_ne h1 h2 (xs := l) (i := 0))
  rw [posF_count, posF_count] at this
  exact this
def euF (ins row L : List Nat) (h : Nat → Int) (k : Nat) : D := if k ∈ L then .int (2 - 2 * h k - (ins.count k : Nat) - (row.count k : Nat)) else .none
def euL (F : Nat) (ins row L : List Nat) (h : Nat → Int) : List D := (List.range F).map (euF ins row L h)
theorem set_rng {n i : Nat} {v : D} {g : Nat → D} : ((List.range n).map g).set i v = (List.range n).map fun k => if k = i then v else g k := by
  refine List.ext_getElem? fun j => ?_
  rw [List.getElem?_set, List.getElem?_map, List.getElem?_map]
  by_cases hj : j < n
  · rw [List.getElem?_range hj]
    by_cases e : i = j
    · subst e; simp [hj]
    · simp [e, Ne.symm e]
  · rw [List.getElem?_eq_none (by simp; omega)]
    by_cases e : i = j
    · subst e; simp [hj]
    · simp [e]
theorem rng_congr {n : Nat} {f g : Nat → D} (h : ∀ k, k < n → f k = g k) : (List.range n).map f = (List.range n).map g := List.map_congr_left fun k hk => h k (List.mem_range.mp hk)
theorem at_eu {F : Nat} {ins row L : List Nat} {h : Nat → Int} {k : Nat} (hk : k < F) : atI (euL F ins row L h) (k : Int) = some (euF ins row L h k) := by
  rw [atI_of]
  unfold euL
  rw [List.getElem?_map, List.getElem?_range hk]
  rfl
theorem ix_eu {F : Nat} {ins row L : List Nat} {h : Nat → Int} {k : Nat} (hk : k < F) : ixN (euL F ins row L h).length (k : Int) = some k := by
  rw [ixN_of (by omega) (by unfold euL; simp; omega)]
  simp
theorem at_row {A B : List Nat} {x : Nat} : atI ((A ++ x :: B).map nD) (A.length : Int) = some (nD x) := by
  rw [atI_of]
  simp
theorem at_row1 {A B : List Nat} {x y : Nat} : atI ((A ++ x :: y :: B).map nD) ((A.length : Int) + 1) = some (nD y) := by
  rw [show (A.length : Int) + 1 = ((A.length + 1 : Nat) : Int) by omega, atI_of]
  simp
theorem cut_to {A B : List Nat} : cutD ((A ++ B).map nD) none (some (A.length : Int)) = A.map nD := by
  rw [cutD_to]
  simp
theorem cut_from {A B : List Nat} : cutD ((A ++ B).map nD) (some (A.length : Int)) none = B.map nD := by
  rw [cutD_from]
  simp
theorem cut_from1 {A B : List Nat} {x : Nat} : cutD ((A ++ x :: B).map nD) (some ((A.length : Int) + 1)) none = B.map nD := by
  have z := cut_from (A := A ++ [x]) (B := B)
  rw [List.append_assoc, List.length_append] at z
  exact z
theorem cut_from2 {A B : List Nat} {x y : Nat} : cutD ((A ++ x :: y :: B).map nD) (some ((A.length : Int) + 2)) none = B.map nD := by
  have z := cut_from (A := A ++ [x, y]) (B := B)
  rw [List.append_assoc, List.length_append] at z
  exact z
theorem cut_to1 {A B : List Nat} {x : Nat} : cutD ((A ++ x :: B).map nD) none (some ((A.length : Int) + 1)) = (A ++ [x]).map nD := by
  have z := cut_to (A := A ++ [x]) (B := B)
  rw [List.append_assoc, List.length_append] at z
  exact z
theorem at_set {E : List D} {x : Nat} {v : D} (h : x < E.length) : atI (E.set x v) (x : Int) = some v := by
  rw [atI_of]
  simp [h]
theorem at_set_ne {E : List D} {x y : Nat} {v : D} (h : x ≠ y) : atI (E.set x v) (y : Int) = atI E (y : Int) := by
  rw [atI_of, atI_of, List.getElem?_set_ne h]
/-- what the loop keeps -/
structure Gs (r : Int) (w l1 : List Pc) (ins row L : List Nat) (h : Nat → Int) (F : Nat) : Prop where
  R : Rep (8 + l1.length) (surfBy r l1) ins row L h
  lt : ∀ k ∈ L, k < F
  hF : F ≤ 8 + l1.length
def gEnv (r : Int) (w : List Pc) (R E I : List D) (F : Nat) (x6 x7 x8 x9 x10 : Option Sl) : Ev := [some (.frz (.int r)), some (.frz (wrdD w)), some (.own R), some (.own E), some (.frz (.int (F : Nat))), some (.own I), x6, x7, x8, x9, x10, none, none, none, none, none, none]
def Igl (r : Int) (w l1 : List Pc) (ρ : Ev) : Prop := ∃ ins row L h F x6 x7 x8 x9 x10, Gs r w l1 ins row L h F ∧ ni x6 = true ∧ ni x7 = true ∧ ni x8 = true ∧ ni x9 = true ∧ ni x10 = true ∧
  ρ = gEnv r w (row.map nD) (euL F ins row L h) (ins.map nD) F x6 x7 x8 x9 x10
section
variable {r : Int} {w l1 : List Pc} {ins A B L : List Nat} {h : Nat → Int} {F x y : Nat} {x6 x7 x8 x9 x10 : Option Sl}
theorem gs_start (G : Gs r w l1 ins (A ++ B) L h F) : ∃ h', Gs r w (l1 ++ [(.st, (A.length : Int))]) ins (A ++ F :: B) (L ++ [F]) h' (F + 1) ∧ euL (F + 1) ins (A ++ F :: B) (L ++ [F]) h' = euL F ins (A ++ B) L h ++ [.int 1] := by
  have fL : F ∉ L := fun e => by have := G.lt F e; omega
  have R := rep_start (f := F) (rep_h G.R (h' := fun k => if k = F then 0 else h k) fun k hk => if_neg fun e : k = F => fL (by rw [← e]; exact hk)) fL (if_pos rfl)
  refine ⟨fun k => if k = F then 0 else h k, ⟨?_, fun k hk => ?_, ?_⟩, ?_⟩
  · rw [surf_snoc, List.length_append]; exact R
  · rcases List.mem_append.mp hk with h | h
    · have := G.lt k h; omega
    · rw [List.mem_singleton.mp h]; omega
  · have := G.hF; simp; omega
  · unfold euL
    rw [List.range_succ, List.map_append]
    have fi : F ∉ ins := fun e => fL (G.R.iL F e)
    have fr : F ∉ A ++ B := fun e => fL (G.R.rL F e)
    rw [List.mem_append, not_or] at fr
    congr 1
    · refine rng_congr fun k hk => ?_
      have : ¬ F = k := by omega
      have : ¬ k = F := by omega
      unfold euF
      simp [List.count_append, List.count_cons, *]
    · show [euF ins (A ++ F :: B) (L ++ [F]) _ F] = _
      unfold euF
      rw [if_pos (by simp)]
      simp [List.count_append, List.count_cons, List.count_eq_zero.mpr fi, List.count_eq_zero.mpr fr.1, List.count_eq_zero.mpr fr.2]
theorem eu_at {row : List Nat} {k : Nat} (hk : k ∈ L) : euF ins row L h k = .int (2 - 2 * h k - (ins.count k : Nat) - (row.count k : Nat)) := if_pos hk
theorem gs_end (G : Gs r w l1 ins (A ++ x :: B) L h F) : Gs r w (l1 ++ [(.en, (A.length : Int))]) ins (A ++ B) L h F ∧ euL F ins (A ++ B) L h = (euL F ins (A ++ x :: B) L h).set x (.int (2 - 2 * h x - (ins.count x : Nat) - ((A ++ x :: B).count x : Nat) + 1)) := by
  have xL : x ∈ L := G.R.rL x (by simp)
  refine ⟨⟨?_, G.lt, ?_⟩, ?_⟩
  · rw [surf_snoc, List.length_append]; exact rep_mono (rep_end G.R) (by simp)
  · have := G.hF; simp; omega
  · unfold euL
    rw [set_rng]
    refine rng_congr fun k hk => ?_
    by_cases e : k = x
    · subst e
      rw [if_pos rfl, eu_at xL]
      simp [List.count_append, List.count_cons]
      omega
    · rw [if_neg e]
      unfold euF
      simp [List.count_append, List.count_cons, Ne.symm e]
theorem gs_part (G : Gs r w l1 ins (A ++ x :: B) L h F) : Gs r w (l1 ++ [(.pa, (A.length : Int))]) ins (A ++ x :: x :: B) L h F ∧ euL F ins (A ++ x :: x :: B) L h = (euL F ins (A ++ x :: B) L h).set x (.int (2 - 2 * h x - (ins.count x : Nat) - ((A ++ x :: B).count x : Nat) - 1)) := by
  have xL : x ∈ L := G.R.rL x (by simp)
  refine ⟨⟨?_, G.lt, ?_⟩, ?_⟩
  · rw [surf_snoc, List.length_append]; exact rep_part G.R
  · have := G.hF; simp; omega
  · unfold euL
    rw [set_rng]
    refine rng_congr fun k hk => ?_
    by_cases e : k = x
    · subst e
      rw [if_pos rfl, eu_at xL]
      simp [List.count_append, List.count_cons]
      omega
    · rw [if_neg e]
      unfold euF
      simp [List.count_append, List.count_cons, Ne.symm e]
theorem gs_swap (G : Gs r w l1 ins (A ++ x :: y :: B) L h F) : Gs r w (l1 ++ [(.sw, (A.length : Int))]) ins (A ++ y :: x :: B) L h F ∧ euL F ins (A ++ y :: x :: B) L h = euL F ins (A ++ x :: y :: B) L h := by
  refine ⟨⟨?_, G.lt, ?_⟩, ?_⟩
  · rw [surf_snoc, List.length_append]; exact rep_mono (rep_swap G.R) (by simp)
  · have := G.hF; simp; omega
  · unfold euL
    refine rng_congr fun k hk => ?_
    unfold euF
    have : (A ++ y :: x :: B).count k = (A ++ x :: y :: B).count k := by
      simp only [List.count_append, List.count_cons]; omega
    rw [this]
theorem gs_join1 (G : Gs r w l1 ins (A ++ x :: x :: B) L h F) : ∃ h', Gs r w (l1 ++ [(.jo, (A.length : Int))]) ins (A ++ x :: B) L h' F ∧ euL F ins (A ++ x :: B) L h' = (euL F ins (A ++ x :: x :: B) L h).set x (.int (2 - 2 * h x - (ins.count x : Nat) - ((A ++ x :: x :: B).count x : Nat) - 1)) := by
  have xL : x ∈ L := G.R.rL x (by simp)
  refine ⟨fun k => if k = x then h x + 1 else h k, ⟨?_, G.lt, ?_⟩, ?_⟩
  · rw [surf_snoc, List.length_append]; exact rep_mono (rep_join1 G.R) (by simp)
  · have := G.hF; simp; omega
  · unfold euL
    rw [set_rng]
    refine rng_congr fun k hk => ?_
    by_cases e : k = x
    · subst e
      rw [if_pos rfl, eu_at xL]
      simp [List.count_append, List.count_cons]
      omega
    · rw [if_neg e]
      unfold euF
      simp [List.count_append, List.count_cons, Ne.symm e, e]
theorem gs_join2 (G : Gs r w l1 ins (A ++ x :: y :: B) L h F) (hn : x ≠ y) : ∃ h', Gs r w (l1 ++ [(.jo, (A.length : Int))]) (ins.map (ren y x)) (A.map (ren y x) ++ x :: B.map (ren y x)) (L.filter fun k => !decide (k = y)) h' F ∧
    euL F (ins.map (ren y x)) (A.map (ren y x) ++ x :: B.map (ren y x)) (L.filter fun k => !decide (k = y)) h' = (((euL F ins (A ++ x :: y :: B) L h).set x (.int (2 - 2 * h x - (ins.count x : Nat) - ((A ++ x :: y :: B).count x : Nat) - 1))).set x (.int (2 - 2 * h x - (ins.count x : Nat) - ((A ++ x :: y :: B).count x : Nat) - 1 + (2 - 2 * h y - (ins.count y : Nat) - ((A ++ x :: y :: B).count y : Nat))))).set y .none := by
  have xL : x ∈ L := G.R.rL x (by simp)
  have yL : y ∈ L := G.R.rL y (by simp)
  refine ⟨fun k => if k = x then h y + h x else h k, ⟨?_, fun k hk => G.lt k (List.mem_filter.mp hk).1, ?_⟩, ?_⟩
  · rw [surf_snoc, List.length_append]; exact rep_mono (rep_join2 G.R (Ne.symm hn) (.inr ⟨rfl, rfl⟩)) (by simp)
  · have := G.hF; simp; omega
  · unfold euL
    rw [set_rng, set_rng, set_rng]
    refine rng_congr fun k hk => ?_
    by_cases e1 : k = y
    · subst e1
      rw [if_pos rfl]
      unfold euF
      rw [if_neg]
      simp
    · rw [if_neg e1]
      by_cases e2 : k = x
      · subst e2
        rw [if_pos rfl, eu_at (List.mem_filter.mpr ⟨xL, by simpa using hn⟩)]
        simp only [List.count_append, List.count_cons, count_ren (Ne.symm hn), if_pos rfl]
        congr 1
        simp [hn, Ne.symm hn]
        omega
      · rw [if_neg e2, if_neg e2]
        unfold euF
        simp [List.count_append, List.count_cons, count_ren_ne e1 e2, e1, e2, Ne.symm e1, Ne.symm e2]
end
end La
set_option Elab.async false
set_option linter.all false
set_option maxRecDepth 100000
set_option maxHeartbeats 1000000
/-! Kp11: the law's own gluing, walked. -/
namespace La
open PySem L2 PyProof.Rows Pu
theorem ad_l {X Y : List D} (h : X.length + Y.length ≤ 2000) : fAdd (.list X) (.list Y) = some (.fr (X ++ Y)) := add_ls (by omega)
theorem igl_mk {r : Int} {w l1 : List Pc} {ins row L : List Nat} {h : Nat → Int} {F : Nat} {x6 x7 x8 x9 x10 : Option Sl} {R E I : List D} (G : Gs r w l1 ins row L h F) (h6 : ni x6 = true) (h7 : ni x7 = true) (h8 : ni x8 = true) (h9 : ni x9 = true) (h10 : ni x10 = true) (eR : R = row.map nD) (eE : E = euL F ins row L h) (eI : I = ins.map nD) :
    Igl r w l1 (gEnv r w R E I F x6 x7 x8 x9 x10) := ⟨ins, row, L, h, F, x6, x7, x8, x9, x10, G, h6, h7, h8, h9, h10, by rw [eR, eE, eI]⟩
section
variable {r : Int} {w l1 : List Pc} {ins row L : List Nat} {h : Nat → Int} {F : Nat} {x6 x7 x8 x9 x10 : Option Sl}
def gBody : M Fl := mBlk [mIfS (mBin fEq (mSlot 6) (mC (.str ("start" : Str)))) (mBlk [mPar [2, 3, 4] [mEsr (mBin fAdd (mBin fAdd (mCut (mSlot 2) (optM none) (optM (some (mSlot 7)))) (mLst [mEsc (mSlot 4)])) (mCut (mSlot 2) (optM (some (mSlot 7))) (optM none))), mEsr (mBin fAdd (mSlot 3) (mLst [mEsc (mC (.int 1))])), mEsr (mBin fAdd (mSlot 4) (mC (.int 1)))]]) (mBlk []), mIfS (mBin fEq (mSlot 6) (mC (.str ("end" : Str)))) (mBlk [mStore 3 (mBin fItem (mSlot 2) (mSlot 7)) (mBin fAdd (mBin fItem (mSlot 3) (mBin fItem (mSlot 2) (mSlot 7))) (mC (.int 1))), mSet 2 (mBin fAdd (mCut (mSlot 2) (optM none) (optM (some (mSlot 7)))) (mCut (mSlot 2) (optM (some (mBin fAdd (mSlot 7) (mC (.int 1))))) (optM none)))]) (mBlk []), mIfS (mBin fEq (mSlot 6) (mC (.str ("part" : Str)))) (mBlk [mStore 3 (mBin fItem (mSlot 2) (mSlot 7)) (mBin fSub (mBin fItem (mSlot 3) (mBin fItem (mSlot 2) (mSlot 7))) (mC (.int 1))), mSet 2 (mBin fAdd (mBin fAdd (mCut (mSlot 2) (optM none) (optM (some (mSlot 7)))) (mLst [mEsc (mBin fItem (mSlot 2) (mSlot 7))])) (mCut (mSlot 2) (optM (some (mSlot 7))) (optM none)))]) (mBlk []), mIfS (mBin fEq (mSlot 6) (mC (.str ("swap" : Str)))) (mBlk [mSet 2 (mBin fAdd (mBin fAdd (mCut (mSlot 2) (optM none) (optM (some (mSlot 7)))) (mLst [mEsc (mBin fItem (mSlot 2) (mBin fAdd (mSlot 7) (mC (.int 1)))), mEsc (mBin fItem (mSlot 2) (mSlot 7))])) (mCut (mSlot 2) (optM (some (mBin fAdd (mSlot 7) (mC (.int 2))))) (optM none)))]) (mBlk []), mIfS (mBin fEq (mSlot 6) (mC (.str ("join" : Str)))) (mBlk [mPar [8, 9] [mEsr (mBin fItem (mSlot 2) (mSlot 7)), mEsr (mBin fItem (mSlot 2) (mBin fAdd (mSlot 7) (mC (.int 1))))], mStore 3 (mSlot 8) (mBin fSub (mBin fItem (mSlot 3) (mSlot 8)) (mC (.int 1))), mIfS (mBin fNe (mSlot 8) (mSlot 9)) (mBlk [mStore 3 (mSlot 8) (mBin fAdd (mBin fItem (mSlot 3) (mSlot 8)) (mBin fItem (mSlot 3) (mSlot 9))), mPar [2, 5] [mEsr (mComp [10] (mSeq (mSlot 2)) (.n 10) (mC (.bool true)) (mIf (mBin fEq (mSlot 10) (mSlot 9)) (mSlot 8) (mSlot 10))), mEsr (mComp [10] (mSeq (mSlot 5)) (.n 10) (mC (.bool true)) (mIf (mBin fEq (mSlot 10) (mSlot 9)) (mSlot 8) (mSlot 10)))], mStore 3 (mSlot 9) (mC .none)]) (mBlk []), mSet 2 (mBin fAdd (mCut (mSlot 2) (optM none) (optM (some (mBin fAdd (mSlot 7) (mC (.int 1)))))) (mCut (mSlot 2) (optM (some (mBin fAdd (mSlot 7) (mC (.int 2))))) (optM none)))]) (mBlk [])]
variable (h6 : ni x6 = true) (h7 : ni x7 = true) (h8 : ni x8 = true) (h9 : ni x9 = true) (h10 : ni x10 = true) (hl : l1.length ≤ 400)
include h6 h7 h8 h9 h10 hl
theorem w_start {A B : List Nat} (G : Gs r w l1 ins (A ++ B) L h F) : opP (asg (.t [6, 7]) (pcD (.st, (A.length : Int))) (gEnv r w ((A ++ B).map nD) (euL F ins (A ++ B) L h) (ins.map nD) F x6 x7 x8 x9 x10)) fun ρ1 => Wd (gBody ρ1) fun fl ρ2 => fl = .next ∧ Igl r w (l1 ++ [(.st, (A.length : Int))]) ρ2 := by
  obtain ⟨h', G', eE⟩ := gs_start G
  have lr := G.R.lr
  have hF := G.hF
  rw [List.length_append] at lr
  have c1 := cut_to (A := A) (B := B)
  have c2 := cut_from (A := A) (B := B)
  have a1 := ad_l (X := A.map nD) (Y := [.int (F : Nat)]) (by simp; omega)
  have a2 := ad_l (X := A.map nD ++ [.int (F : Nat)]) (Y := B.map nD) (by simp; omega)
  have a3 := ad_l (X := euL F ins (A ++ B) L h) (Y := [.int 1]) (by simp [euL]; omega)
  have fin : Igl r w (l1 ++ [(.st, (A.length : Int))]) (gEnv r w (A.map nD ++ .int (F : Nat) :: B.map nD) (euL F ins (A ++ B) L h ++ [.int 1]) (ins.map nD) (F + 1) (some (.frz (.str (kS .st)))) (some (.frz (.int (A.length : Nat)))) x8 x9 x10) := igl_mk G' rfl rfl h8 h9 h10 (by simp [nD]) eE.symm rfl
  generalize (A ++ B).map nD = R at *
  generalize euL F ins (A ++ B) L h = E at *
  unfold gBody
  simp [optM, gEnv, x_asg_pc, h6, h7, h8, h9, h10, eq_st, eq_en, eq_pa, eq_sw, eq_jo, c1, c2, a1, a2, a3, lst1]
  simpa [gEnv] using fin
theorem w_swap {A B : List Nat} {x y : Nat} (G : Gs r w l1 ins (A ++ x :: y :: B) L h F) : opP (asg (.t [6, 7]) (pcD (.sw, (A.length : Int))) (gEnv r w ((A ++ x :: y :: B).map nD) (euL F ins (A ++ x :: y :: B) L h) (ins.map nD) F x6 x7 x8 x9 x10)) fun ρ1 => Wd (gBody ρ1) fun fl ρ2 => fl = .next ∧ Igl r w (l1 ++ [(.sw, (A.length : Int))]) ρ2 := by
  obtain ⟨G', eE⟩ := gs_swap G
  have lr := G.R.lr
  rw [List.length_append, List.length_cons, List.length_cons] at lr
  have c1 := cut_to (A := A) (B := x :: y :: B)
  have c2 := cut_from2 (A := A) (x := x) (y := y) (B := B)
  have t1 := at_row (A := A) (x := x) (B := y :: B)
  have t2 := at_row1 (A := A) (x := x) (y := y) (B := B)
  have a0 : fLst [nD y, nD x] = some (.fr [nD y, nD x]) := rfl
  have a1 := ad_l (X := A.map nD) (Y := [nD y, nD x]) (by simp; omega)
  have a2 := ad_l (X := A.map nD ++ [nD y, nD x]) (Y := B.map nD) (by simp; omega)
  have fin : Igl r w (l1 ++ [(.sw, (A.length : Int))]) (gEnv r w (A.map nD ++ nD y :: nD x :: B.map nD) (euL F ins (A ++ x :: y :: B) L h) (ins.map nD) F (some (.frz (.str (kS .sw)))) (some (.frz (.int (A.length : Nat)))) x8 x9 x10) := igl_mk G' rfl rfl h8 h9 h10 (by simp) eE.symm rfl
  generalize (A ++ x :: y :: B).map nD = R at *
  generalize euL F ins (A ++ x :: y :: B) L h = E at *
  unfold gBody
  simp [optM, gEnv, x_asg_pc, h6, h7, h8, h9, h10, eq_st, eq_en, eq_pa, eq_sw, eq_jo, c1, c2, t1, t2, a0, a1, a2, lst1]
  simpa [gEnv] using fin
theorem w_end {A B : List Nat} {x : Nat} (G : Gs r w l1 ins (A ++ x :: B) L h F) : opP (asg (.t [6, 7]) (pcD (.en, (A.length : Int))) (gEnv r w ((A ++ x :: B).map nD) (euL F ins (A ++ x :: B) L h) (ins.map nD) F x6 x7 x8 x9 x10)) fun ρ1 => Wd (gBody ρ1) fun fl ρ2 => fl = .next ∧ Igl r w (l1 ++ [(.en, (A.length : Int))]) ρ2 := by
  obtain ⟨G', eE⟩ := gs_end G
  have lr := G.R.lr
  rw [List.length_append, List.length_cons] at lr
  have xL : x ∈ L := G.R.rL x (by simp)
  have xF := G.lt x xL
  have c1 := cut_to (A := A) (B := x :: B)
  have c2 := cut_from1 (A := A) (x := x) (B := B)
  have t1 := at_row (A := A) (x := x) (B := B)
  have t2 := at_eu (ins := ins) (row := A ++ x :: B) (L := L) (h := h) xF
  rw [eu_at xL] at t2
  have t3 := ix_eu (ins := ins) (row := A ++ x :: B) (L := L) (h := h) xF
  have a1 := ad_l (X := A.map nD) (Y := B.map nD) (by simp; omega)
  have fin := fun E R e1 e2 => igl_mk (R := R) (E := E) (I := ins.map nD) (x6 := some (.frz (.str (kS .en)))) (x7 := some (.frz (.int (A.length : Nat)))) G' rfl rfl h8 h9 h10 e1 e2 rfl
  rw [eE] at fin
  generalize (A ++ x :: B).map nD = R at *
  generalize euL F ins (A ++ x :: B) L h = E at *
  generalize (2 - 2 * h x - (ins.count x : Nat) - ((A ++ x :: B).count x : Nat) : Int) = ex at *
  unfold gBody
  simp [optM, gEnv, nD, x_asg_pc, h6, h7, h8, h9, h10, eq_st, eq_en, eq_pa, eq_sw, eq_jo, c1, c2, t1, t2, t3, a1, lst1]
  exact fin _ _ (by simp) rfl
theorem w_part {A B : List Nat} {x : Nat} (G : Gs r w l1 ins (A ++ x :: B) L h F) : opP (asg (.t [6, 7]) (pcD (.pa, (A.length : Int))) (gEnv r w ((A ++ x :: B).map nD) (euL F ins (A ++ x :: B) L h) (ins.map nD) F x6 x7 x8 x9 x10)) fun ρ1 => Wd (gBody ρ1) fun fl ρ2 => fl = .next ∧ Igl r w (l1 ++ [(.pa, (A.length : Int))]) ρ2 := by
  obtain ⟨G', eE⟩ := gs_part G
  have lr := G.R.lr
  rw [List.length_append, List.length_cons] at lr
  have xL : x ∈ L := G.R.rL x (by simp)
  have xF := G.lt x xL
  have c1 := cut_to (A := A) (B := x :: B)
  have c2 := cut_from (A := A) (B := x :: B)
  have t1 := at_row (A := A) (x := x) (B := B)
  have t2 := at_eu (ins := ins) (row := A ++ x :: B) (L := L) (h := h) xF
  rw [eu_at xL] at t2
  have t3 := ix_eu (ins := ins) (row := A ++ x :: B) (L := L) (h := h) xF
  have a1 := ad_l (X := A.map nD) (Y := [.int x]) (by simp; omega)
  have a2 := ad_l (X := A.map nD ++ [.int x]) (Y := (x :: B).map nD) (by simp; omega)
  have fin := fun E R e1 e2 => igl_mk (R := R) (E := E) (I := ins.map nD) (x6 := some (.frz (.str (kS .pa)))) (x7 := some (.frz (.int (A.length : Nat)))) G' rfl rfl h8 h9 h10 e1 e2 rfl
  rw [eE] at fin
  generalize (A ++ x :: B).map nD = R at *
  generalize hX : (x :: B).map nD = XB at *
  generalize euL F ins (A ++ x :: B) L h = E at *
  generalize (2 - 2 * h x - (ins.count x : Nat) - ((A ++ x :: B).count x : Nat) : Int) = ex at *
  unfold gBody
  simp [optM, gEnv, nD, x_asg_pc, h6, h7, h8, h9, h10, eq_st, eq_en, eq_pa, eq_sw, eq_jo, c1, c2, t1, t2, t3, a1, a2, lst1]
  exact fin _ _ (by rw [← hX]; simp [nD]) rfl
end
end La
set_option Elab.async false
set_option linter.all false
set_option maxRecDepth 100000
set_option maxHeartbeats 1000000
/-! Kp12: a join, walked. -/
namespace La
open PySem L2 PyProof.Rows Pu
theorem ren_row {A B : List Nat} {x y : Nat} (hn : x ≠ y) : (A ++ x :: y :: B).map (ren y x) = A.map (ren y x) ++ x :: x :: B.map (ren y x) := by
  simp [ren, hn]
section
variable {r : Int} {w l1 : List Pc} {ins row L : List Nat} {h : Nat → Int} {F : Nat} {x6 x7 x8 x9 x10 : Option Sl}
variable (h6 : ni x6 = true) (h7 : ni x7 = true) (h8 : ni x8 = true) (h9 : ni x9 = true) (h10 : ni x10 = true) (hl : l1.length ≤ 400)
include h6 h7 h8 h9 h10 hl
theorem w_join1 {A B : List Nat} {x : Nat} (G : Gs r w l1 ins (A ++ x :: x :: B) L h F) : opP (asg (.t [6, 7]) (pcD (.jo, (A.length : Int))) (gEnv r w ((A ++ x :: x :: B).map nD) (euL F ins (A ++ x :: x :: B) L h) (ins.map nD) F x6 x7 x8 x9 x10)) fun ρ1 => Wd (gBody ρ1) fun fl ρ2 => fl = .next ∧ Igl r w (l1 ++ [(.jo, (A.length : Int))]) ρ2 := by
  obtain ⟨h', G', eE⟩ := gs_join1 G
  have lr := G.R.lr
  rw [List.length_append, List.length_cons, List.length_cons] at lr
  have xL : x ∈ L := G.R.rL x (by simp)
  have xF := G.lt x xL
  have c1 := cut_to1 (A := A) (x := x) (B := x :: B)
  have c2 := cut_from2 (A := A) (x := x) (y := x) (B := B)
  have t1 := at_row (A := A) (x := x) (B := x :: B)
  have t4 := at_row1 (A := A) (x := x) (y := x) (B := B)
  have t2 := at_eu (ins := ins) (row := A ++ x :: x :: B) (L := L) (h := h) xF
  rw [eu_at xL] at t2
  have t3 := ix_eu (ins := ins) (row := A ++ x :: x :: B) (L := L) (h := h) xF
  have a1 := ad_l (X := (A ++ [x]).map nD) (Y := B.map nD) (by simp; omega)
  have fin := fun E R e1 e2 => igl_mk (R := R) (E := E) (I := ins.map nD) (x6 := some (.frz (.str (kS .jo)))) (x7 := some (.frz (.int (A.length : Nat)))) (x8 := some (.frz (nD x))) (x9 := some (.frz (nD x))) G' rfl rfl rfl rfl h10 e1 e2 rfl
  rw [eE] at fin
  generalize (A ++ x :: x :: B).map nD = R at *
  generalize hX : (A ++ [x]).map nD = XA at *
  generalize euL F ins (A ++ x :: x :: B) L h = E at *
  generalize (2 - 2 * h x - (ins.count x : Nat) - ((A ++ x :: x :: B).count x : Nat) : Int) = ex at *
  unfold gBody
  simp [optM, gEnv, nD, x_asg_pc, h6, h7, h8, h9, h10, eq_st, eq_en, eq_pa, eq_sw, eq_jo, c1, c2, t1, t2, t3, t4, a1, lst1]
  exact fin _ _ (by rw [← hX]; simp) rfl
theorem ix_set {E : List D} {i j : Nat} {v : D} {k : Int} (h : ixN E.length k = some j) : ixN (E.set i v).length k = some j := by rw [List.length_set]; exact h
theorem w_join2 {A B : List Nat} {x y : Nat} (hn : x ≠ y) (G : Gs r w l1 ins (A ++ x :: y :: B) L h F) : opP (asg (.t [6, 7]) (pcD (.jo, (A.length : Int))) (gEnv r w ((A ++ x :: y :: B).map nD) (euL F ins (A ++ x :: y :: B) L h) (ins.map nD) F x6 x7 x8 x9 x10)) fun ρ1 => Wd (gBody ρ1) fun fl ρ2 => fl = .next ∧ Igl r w (l1 ++ [(.jo, (A.length : Int))]) ρ2 := by
  obtain ⟨h', G', eE⟩ := gs_join2 G hn
  have lr := G.R.lr
  have li := G.R.li
  have lr' := lr
  rw [List.length_append, List.length_cons, List.length_cons] at lr'
  have xL : x ∈ L := G.R.rL x (by simp)
  have yL : y ∈ L := G.R.rL y (by simp)
  have xF := G.lt x xL
  have yF := G.lt y yL
  have c1 := cut_to1 (A := A.map (ren y x)) (x := x) (B := x :: B.map (ren y x))
  have c2 := cut_from2 (A := A.map (ren y x)) (x := x) (y := x) (B := B.map (ren y x))
  rw [← ren_row hn, List.length_map] at c1 c2
  have t1 := at_row (A := A) (x := x) (B := y :: B)
  have t4 := at_row1 (A := A) (x := x) (y := y) (B := B)
  have t2 := at_eu (ins := ins) (row := A ++ x :: y :: B) (L := L) (h := h) xF
  rw [eu_at xL] at t2
  have t5 := at_eu (ins := ins) (row := A ++ x :: y :: B) (L := L) (h := h) yF
  rw [eu_at yL] at t5
  have t3 := ix_eu (ins := ins) (row := A ++ x :: y :: B) (L := L) (h := h) xF
  have t6 := ix_eu (ins := ins) (row := A ++ x :: y :: B) (L := L) (h := h) yF
  have eF : x < (euL F ins (A ++ x :: y :: B) L h).length := by unfold euL; simp; omega
  have a1 := ad_l (X := (A.map (ren y x) ++ [x]).map nD) (Y := (B.map (ren y x)).map nD) (by simp; omega)
  have fin := fun E R I x10 h10 e1 e2 e3 => igl_mk (R := R) (E := E) (I := I) (x6 := some (.frz (.str (kS .jo)))) (x7 := some (.frz (.int (A.length : Nat)))) (x8 := some (.frz (nD x))) (x9 := some (.frz (nD y))) (x10 := x10) G' rfl rfl rfl rfl h10 e1 e2 e3
  rw [eE] at fin
  generalize hR : (A ++ x :: y :: B).map nD = R at *
  have nxy : ¬ (x : Int) = y := by omega
  generalize hX : (A.map (ren y x) ++ [x]).map nD = XA at *
  generalize hY : (B.map (ren y x)).map nD = XB at *
  generalize hR2 : ((A ++ x :: y :: B).map (ren y x)).map nD = R2 at *
  generalize euL F ins (A ++ x :: y :: B) L h = E at *
  generalize (2 - 2 * h x - (ins.count x : Nat) - ((A ++ x :: y :: B).count x : Nat) : Int) = ex at *
  generalize (2 - 2 * h y - (ins.count y : Nat) - ((A ++ x :: y :: B).count y : Nat) : Int) = ey at *
  have s1 : ∀ v, atI (E.set x v) (x : Int) = some v := fun v => at_set eF
  have s2 : ∀ v, atI (E.set x v) (y : Int) = some (.int ey) := fun v => by rw [at_set_ne hn, t5]
  have hR3 : (A ++ x :: y :: B).map (fun z => nD (ren y x z)) = R2 := by rw [← hR2, List.map_map]; rfl
  generalize (A ++ x :: y :: B) = row at hR hR3 lr
  unfold gBody
  simp [optM, gEnv, nD, x_asg_pc, h6, h7, h8, h9, h10, eq_st, eq_en, eq_pa, eq_sw, eq_jo, c1, c2, t1, t2, t3, t4, t5, t6, s1, s2, lst1, nxy]
  refine wd_compF row nD (fun z => nD (ren y x z)) (ρ1 := _) (by simp [← hR]; rfl) (lim_of (by omega)) (fun z hz => ?_) ?_
  · simp [wipeE, over, nD, ren]
    by_cases e : z = y
    · simp [e]
    · have : ¬ (z : Int) = y := by omega
      simp [e, this]
  · simp
    refine wd_compF ins nD (fun z => nD (ren y x z)) (ρ1 := _) (by simp; rfl) (lim_of (by omega)) (fun z hz => ?_) ?_
    · simp [wipeE, over, nD, ren]
      by_cases e : z = y
      · simp [e]
      · have : ¬ (z : Int) = y := by omega
        simp [e, this]
    · rw [hR3]
      simp [t6, c1, c2, a1]
      exact fin _ _ _ _ h10 (by rw [← hX, ← hY]; simp) (by simp) (by rw [List.map_map]; rfl)
end
end La
set_option Elab.async false
set_option linter.all false
set_option maxRecDepth 100000
set_option maxHeartbeats 1000000
/-! Kp13: the law's own gluing, whole. -/
namespace La
open PySem L2 PyProof.Rows Pu
theorem w_step {r : Int} {w l1 : List Pc} {ins row L : List Nat} {h : Nat → Int} {F : Nat} {x6 x7 x8 x9 x10 : Option Sl} {q : Pc} (h6 : ni x6 = true) (h7 : ni x7 = true) (h8 : ni x8 = true) (h9 : ni x9 = true) (h10 : ni x10 = true) (hl : l1.length ≤ 400)
    (G : Gs r w l1 ins row L h F) (hf : fitsI (endI r l1) q = true) : opP (asg (.t [6, 7]) (pcD q) (gEnv r w (row.map nD) (euL F ins row L h) (ins.map nD) F x6 x7 x8 x9 x10)) fun ρ1 => Wd (gBody ρ1) fun fl ρ2 => fl = .next ∧ Igl r w (l1 ++ [q]) ρ2 := by
  have hn := G.R.n
  rw [surf_n] at hn
  obtain ⟨k, a⟩ := q
  cases k with
  | st =>
    simp [fitsI] at hf
    obtain ⟨i, rfl⟩ := nat_of hf.1
    obtain ⟨A, B, rfl, rfl⟩ := split0 (show i ≤ row.length by omega)
    exact w_start h6 h7 h8 h9 h10 hl G
  | en =>
    simp [fitsI] at hf
    obtain ⟨i, rfl⟩ := nat_of hf.1
    obtain ⟨A, x, B, rfl, rfl⟩ := split1 (show i < row.length by omega)
    exact w_end h6 h7 h8 h9 h10 hl G
  | pa =>
    simp [fitsI] at hf
    obtain ⟨i, rfl⟩ := nat_of hf.1
    obtain ⟨A, x, B, rfl, rfl⟩ := split1 (show i < row.length by omega)
    exact w_part h6 h7 h8 h9 h10 hl G
  | sw =>
    simp [fitsI] at hf
    obtain ⟨i, rfl⟩ := nat_of hf.1
    obtain ⟨A, x, y, B, rfl, rfl⟩ := split2 (show i + 1 < row.length by omega)
    exact w_swap h6 h7 h8 h9 h10 hl G
  | jo =>
    simp [fitsI] at hf
    obtain ⟨i, rfl⟩ := nat_of hf.1
    obtain ⟨A, x, y, B, rfl, rfl⟩ := split2 (show i + 1 < row.length by omega)
    by_cases e : x = y
    · subst e; exact w_join1 h6 h7 h8 h9 h10 hl G
    · exact w_join2 h6 h7 h8 h9 h10 hl e G
  | tu => simp [fitsI] at hf
theorem fm_congr {α β : Type} {f g : α → Option β} : ∀ {l : List α}, (∀ a ∈ l, f a = g a) → l.filterMap f = l.filterMap g
  | [], _ => rfl
  | a :: l, h => by rw [List.filterMap_cons, List.filterMap_cons, h a List.mem_cons_self, fm_congr fun b hb => h b (List.mem_cons_of_mem _ hb)]
theorem comp_pos {l : List Nat} {k : Nat} : (List.range l.length).filterMap (fun i => if l.getD i 0 = k then some (nD i) else none) = (posI l k).map PyData.int := by
  refine snocI (P := fun l => (List.range l.length).filterMap (fun i => if l.getD i 0 = k then some (nD i) else none) = (posI l k).map PyData.int) rfl ?_ l
  intro l x ih
  rw [List.length_append, List.length_singleton, List.range_succ, List.filterMap_append]
  unfold posI at *
  rw [posF_app, List.map_append]
  congr 1
  · rw [← ih]
    refine fm_congr fun i hi => ?_
    have hi := List.mem_range.mp hi
    have : (l ++ [x]).getD i 0 = l.getD i 0 := by simp [List.getElem?_append_left hi]
    rw [this]
  · have : (l ++ [x]).getD l.length 0 = x := by simp
    rw [List.filterMap_cons, this]
    by_cases e : x = k
    · simp [e, posF, nD]
    · simp [e, posF]
theorem at_nat {l : List Nat} {i : Nat} (h : i < l.length) : atI (l.map nD) (i : Int) = some (.int (l.getD i 0 : Nat)) := by
  rw [atI_of, List.getElem?_map, List.getElem?_eq_getElem h]
  simp [nD, h]
theorem rgN {n : Nat} (h : n ≤ 1000) : fRange1 [.int (n : Nat)] = some ((List.range n).map nD) := by
  have z := rg1 (n := (n : Int)) (by omega) (by omega)
  rw [z]
  unfold rngI
  rw [List.map_map, Int.toNat_natCast]
  rfl
theorem ne_tI0 {a : List Int} : fNe (tI a) (.tuple []) = some (.fz (.bool (!a.isEmpty))) := by
  have h : (tI a).depth ≤ 64 := by simp [tI, PyData.depth, depth_ints]
  unfold fNe
  rw [if_pos (show small (tI a) (.tuple []) = true from decide_eq_true (Nat.le_trans (Nat.min_le_left _ _) h))]
  cases a <;> rfl
theorem rl1 {n : Nat} (hn : n ≤ 8) : fRL1 (.int (n : Nat)) = some (.fr ((List.range n).map nD)) := by
  have : n = 0 ∨ n = 1 ∨ n = 2 ∨ n = 3 ∨ n = 4 ∨ n = 5 ∨ n = 6 ∨ n = 7 ∨ n = 8 := by omega
  rcases this with rfl | rfl | rfl | rfl | rfl | rfl | rfl | rfl | rfl <;> kernel_rfl
theorem rep0 {n : Nat} (hn : n ≤ 8) : fMul (.list [.int 0]) (.int (n : Nat)) = some (.fr (euL n (List.range n) (List.range n) (List.range n) fun _ => 0)) := by
  have : n = 0 ∨ n = 1 ∨ n = 2 ∨ n = 3 ∨ n = 4 ∨ n = 5 ∨ n = 6 ∨ n = 7 ∨ n = 8 := by omega
  rcases this with rfl | rfl | rfl | rfl | rfl | rfl | rfl | rfl | rfl <;> kernel_rfl
def lvL (ins row L : List Nat) (b : Bool) (i : Nat) : List Nat := (List.range i).filter fun k => decide (k ∈ L) && (tch ins row k == b)
theorem lv_perm {ins row L : List Nat} {F : Nat} (nd : L.Nodup) (lt : ∀ k ∈ L, k < F) {b : Bool} : (lvL ins row L b F).Perm (L.filter fun k => tch ins row k == b) := by
  refine (List.perm_ext_iff_of_nodup (List.nodup_range.filter _) (nd.filter _)).mpr fun k => ?_
  rw [List.mem_filter, List.mem_filter, List.mem_range]
  simp
  exact fun h _ => lt k h
theorem lv_succ {ins row L : List Nat} {b : Bool} {i : Nat} : lvL ins row L b (i + 1) = lvL ins row L b i ++ if i ∈ L ∧ tch ins row i = b then [i] else [] := by
  unfold lvL
  rw [List.range_succ, List.filter_append, List.filter_cons]
  congr 1
  by_cases h1 : i ∈ L <;> by_cases h2 : tch ins row i = b <;> simp [h1, h2]
def Ifi (ins row L : List Nat) (h : Nat → Int) (r F : Nat) (w : List Pc) (x6 x7 x8 x9 x10 : Option Sl) (i : Nat) (ρ : Ev) : Prop := ∃ s11 s12 x13 x14 x15 x16, ni x13 = true ∧ ni x14 = true ∧ ni x15 = true ∧ ni x16 = true ∧
  ((s11 = .own (((lvL ins row L true i).map (ptK ins row h)).map partE) ∧ s12 = .own (((lvL ins row L false i).map h).map PyData.int)) ∨ (s11 = .frz (.list (((lvL ins row L true i).map (ptK ins row h)).map partE)) ∧ s12 = .frz (.list (((lvL ins row L false i).map h).map PyData.int)))) ∧
  ρ = [some (.frz (.int (r : Nat))), some (.frz (wrdD w)), some (.own (row.map nD)), some (.own (euL F ins row L h)), some (.frz (.int (F : Nat))), some (.own (ins.map nD)), x6, x7, x8, x9, x10, some s11, some s12, x13, x14, x15, x16]
end La
set_option Elab.async false
set_option linter.all false
set_option maxRecDepth 100000
set_option maxHeartbeats 1000000
/-! Kp14: the law's own gluing is the surface. -/
namespace La
open PySem L2 PyProof.Rows Pu
def gFin : M Fl := (mBlk [mIfS (mBin (fIs true) (mBin fItem (mSlot 3) (mSlot 13)) (mC .none)) (mBlk [mPar [14, 15] [mEsr (mPrim fTuple [mComp [7] (mWalk fRange1 [mEsc (mSlot 0)]) (.n 7) (mBin fEq (mBin fItem (mSlot 5) (mSlot 7)) (mSlot 13)) (mSlot 7)]), mEsr (mPrim fTuple [mComp [7] (mWalk fRange1 [mEsc (mPrim fLen [mSlot 2])]) (.n 7) (mBin fEq (mBin fItem (mSlot 2) (mSlot 7)) (mSlot 13)) (mSlot 7)])], mSet 16 (mBin fDiv (mBin fSub (mBin fSub (mBin fSub (mC (.int 2)) (mBin fItem (mSlot 3) (mSlot 13))) (mPrim fLen [mSlot 14])) (mPrim fLen [mSlot 15])) (mC (.int 2))), mAsg (.t [11, 12]) (mIf (mBin fNe (mBin fAdd (mSlot 14) (mSlot 15)) (mTup [])) (mTup [mEsc (mBin fAdd (mSlot 11) (mLst [mEsc (mTup [mEsc (mSlot 14), mEsc (mSlot 15), mEsc (mSlot 16)])])), mEsc (mSlot 12)]) (mTup [mEsc (mSlot 11), mEsc (mBin fAdd (mSlot 12) (mLst [mEsc (mSlot 16)]))]))]) (mBlk [])])
def gRet : M Fl := mRet (mTup [mEsc (mSlot 0), mEsc (mPrim fLen [mSlot 2]), mEsc (mPrim fTuple [mPrim fSorted [mSlot 11]]), mEsc (mPrim fTuple [mPrim fSorted [mSlot 12]])])
theorem glued_eq : m__law_glued = mBlk [mPar [2, 3, 4] [mEsr (mUn fRL1 (mSlot 0)), mEsr (mBin fMul (mLst [mEsc (mC (.int 0))]) (mSlot 0)), mEsr (mSlot 0)], mSet 5 (mUn fRL1 (mSlot 0)), mFor (mSeq (mSlot 1)) (.t [6, 7]) gBody, mPar [11, 12] [mEsr (mLst []), mEsr (mLst [])], mFor (mWalk fRange1 [mEsc (mSlot 4)]) (.n 13) gFin, gRet] := rfl
theorem ix_lt {n i : Nat} (h : i < n) : ixN n (i : Int) = some i := by rw [ixN_of (by omega) (by omega)]; simp
theorem posI_count {l : List Nat} {k : Nat} : (posI l k).length = l.count k := posF_count
theorem w_fin {n : Nat} (hn : n ≤ 8) {w : List Pc} {ins row L : List Nat} {h : Nat → Int} {F : Nat} {x6 x7 x8 x9 x10 : Option Sl} (hF : F ≤ 900) (lr : row.length ≤ 900) (im : ins.length = n) (h6 : ni x6 = true) (h7 : ni x7 = true) {i : Nat} {ρ : Ev} (hi : i < F) (I : Ifi ins row L h n F w x6 x7 x8 x9 x10 i ρ) :
    opP (asg (.n 13) (nD i) ρ) fun ρ1 => Wd (gFin ρ1) fun fl ρ2 => fl = .next ∧ Ifi ins row L h n F w x6 x7 x8 x9 x10 (i + 1) ρ2 := by
  obtain ⟨s11, s12, x13, x14, x15, x16, h13, h14, h15, h16, hs, e⟩ := I
  subst e
  have ea := at_eu (ins := ins) (row := row) (L := L) (h := h) hi
  have s1 := lv_succ (ins := ins) (row := row) (L := L) (b := true) (i := i)
  have s2 := lv_succ (ins := ins) (row := row) (L := L) (b := false) (i := i)
  have b1 : (lvL ins row L true i).length ≤ i := by have := List.length_filter_le (fun k => decide (k ∈ L) && (tch ins row k == true)) (List.range i); rw [List.length_range] at this; exact this
  have b2 : (lvL ins row L false i).length ≤ i := by have := List.length_filter_le (fun k => decide (k ∈ L) && (tch ins row k == false)) (List.range i); rw [List.length_range] at this; exact this
  have fin : ∀ s11 s12 x14 x15 x16, ni x14 = true → ni x15 = true → ni x16 = true → (s11 = Sl.own (((lvL ins row L true (i + 1)).map (ptK ins row h)).map partE) ∧ s12 = .own (((lvL ins row L false (i + 1)).map h).map PyData.int)) ∨ (s11 = .frz (.list (((lvL ins row L true (i + 1)).map (ptK ins row h)).map partE)) ∧ s12 = .frz (.list (((lvL ins row L false (i + 1)).map h).map PyData.int))) →
      Ifi ins row L h n F w x6 x7 x8 x9 x10 (i + 1) [some (.frz (.int (n : Nat))), some (.frz (wrdD w)), some (.own (row.map nD)), some (.own (euL F ins row L h)), some (.frz (.int (F : Nat))), some (.own (ins.map nD)), x6, x7, x8, x9, x10, some s11, some s12, some (.frz (.int (i : Nat))), x14, x15, x16] :=
    fun s11 s12 x14 x15 x16 h14 h15 h16 hs => ⟨s11, s12, some (.frz (.int (i : Nat))), x14, x15, x16, rfl, h14, h15, h16, hs, rfl⟩
  generalize euL F ins row L h = E at *
  unfold gFin
  by_cases hL : i ∈ L
  · rw [eu_at hL] at ea
    simp [h13, h14, h15, h16, nD, ea]
    refine wd_compG (List.range ins.length) nD (fun j => if ins.getD j 0 = i then some (nD j) else none) (ρ1 := [some (.frz (.int (n : Nat))), some (.frz (wrdD w)), some (.own (row.map nD)), some (.own E), some (.frz (.int (F : Nat))), some (.own (ins.map nD)), x6, x7, x8, x9, x10, some s11, some s12, some (.frz (.int (i : Nat))), x14, x15, x16]) (by simp [rgN (show n ≤ 1000 by omega), im]) (lim_of (by simp; omega)) (fun j hj => ?_) ?_
    · have aj := at_nat (List.mem_range.mp hj)
      simp [wipeE, over, nD, aj, -List.getD_eq_getElem?_getD]
      exact ⟨fun e => by omega, fun e => by omega⟩
    · rw [comp_pos]
      simp
      refine wd_compG (List.range row.length) nD (fun j => if row.getD j 0 = i then some (nD j) else none) (ρ1 := [some (.frz (.int (n : Nat))), some (.frz (wrdD w)), some (.own (row.map nD)), some (.own E), some (.frz (.int (F : Nat))), some (.own (ins.map nD)), x6, x7, x8, x9, x10, some s11, some s12, some (.frz (.int (i : Nat))), x14, x15, x16]) (by simp [rgN (show row.length ≤ 1000 by omega)]) (lim_of (by simp; omega)) (fun j hj => ?_) ?_
      · have aj := at_nat (List.mem_range.mp hj)
        simp [wipeE, over, nD, aj, -List.getD_eq_getElem?_getD]
        exact ⟨fun e => by omega, fun e => by omega⟩
      · rw [comp_pos]
        simp only [x_rd_v, x_fr, opP_some, opP_rds, x_rds_nil, x_mArgs_nil, bind_ok, wd_ok, wd_primN, wd_bind, tup_list, tI_def]
        have L1 : fLen [tI (posI ins i)] = some (.fz (.int (ins.count i : Nat))) := by show some (RV.fz (.int ((posI ins i).map PyData.int).length)) = _; rw [List.length_map, posI_count]
        have L2 : fLen [tI (posI row i)] = some (.fz (.int (row.count i : Nat))) := by show some (RV.fz (.int ((posI row i).map PyData.int).length)) = _; rw [List.length_map, posI_count]
        have k1 := List.count_le_length (l := ins) (a := i)
        have k2 := List.count_le_length (l := row) (a := i)
        have dv : fDiv (.int (2 - (2 - 2 * h i - (ins.count i : Nat) - (row.count i : Nat)) - (ins.count i : Nat) - (row.count i : Nat))) (.int 2) = some (.fz (.int (h i))) := by
          rw [div_ii (by omega) (by omega)]
          congr 3
          omega
        have a1 := add_tI (a := posI ins i) (b := posI row i) (by rw [posI_count, posI_count]; omega)
        have em := ne_tI0 (a := posI ins i ++ posI row i)
        have em2 : (posI ins i ++ posI row i).isEmpty = !tch ins row i := by
          rw [Bool.eq_iff_iff, List.isEmpty_iff, List.append_eq_nil_iff, tch_nil]
          simp
        rw [em2] at em
        generalize (2 - 2 * h i - (ins.count i : Nat) - (row.count i : Nat) : Int) = ex at *
        generalize (ins.count i : Int) = n1 at *
        generalize (row.count i : Int) = n2 at *
        have pe : PyData.tuple [tI (posI ins i), tI (posI row i), .int (h i)] = partE (ptK ins row h i) := rfl
        cases ht : tch ins row i with
        | true =>
          rw [ht] at em
          have q1 : fAdd (.list (((lvL ins row L true i).map (ptK ins row h)).map partE)) (.list [partE (ptK ins row h i)]) = some (.fr (((lvL ins row L true i).map (ptK ins row h)).map partE ++ [partE (ptK ins row h i)])) := ad_l (by simp; omega)
          rw [ht, if_pos ⟨hL, rfl⟩] at s1
          rw [ht, if_neg (by simp)] at s2
          rw [s1, s2] at fin
          rw [List.map_append, List.map_append, List.append_nil] at fin
          generalize ((lvL ins row L true i).map (ptK ins row h)).map partE = P at *
          generalize ((lvL ins row L false i).map h).map PyData.int = S at *
          rcases hs with ⟨rfl, rfl⟩ | ⟨rfl, rfl⟩ <;>
          · simp [h14, h15, h16, ea, L1, L2, dv, a1, em, tup0, tup3, lst1, pe, q1, tup2]
            exact fin _ _ _ _ _ rfl rfl rfl (.inr ⟨rfl, rfl⟩)
        | false =>
          rw [ht] at em
          have q2 : fAdd (.list (((lvL ins row L false i).map h).map PyData.int)) (.list [.int (h i)]) = some (.fr (((lvL ins row L false i).map h).map PyData.int ++ [.int (h i)])) := ad_l (by simp; omega)
          rw [ht, if_neg (by simp), List.append_nil] at s1
          rw [ht, if_pos ⟨hL, rfl⟩] at s2
          rw [s1, s2] at fin
          rw [List.map_append, List.map_append] at fin
          generalize ((lvL ins row L true i).map (ptK ins row h)).map partE = P at *
          generalize ((lvL ins row L false i).map h).map PyData.int = S at *
          rcases hs with ⟨rfl, rfl⟩ | ⟨rfl, rfl⟩ <;>
          · simp [h14, h15, h16, ea, L1, L2, dv, a1, em, tup0, tup3, lst1, pe, q2, tup2]
            exact fin _ _ _ _ _ rfl rfl rfl (.inr ⟨rfl, rfl⟩)
  · rw [show euF ins row L h i = .none from if_neg hL] at ea
    simp [h13, h14, h15, h16, nD, ea, is_n_none]
    refine fin _ _ _ _ _ h14 h15 h16 ?_
    rw [s1, s2, if_neg fun g => hL g.1, if_neg fun g => hL g.1, List.append_nil, List.append_nil]
    exact hs
end La
set_option Elab.async false
set_option linter.all false
set_option maxRecDepth 100000
set_option maxHeartbeats 1000000
/-! Kp15: the law's own gluing is the surface. -/
namespace La
open PySem L2 PyProof.Rows Pu
theorem blk_step {m : M Fl} {ms : List (M Fl)} {ρ ρ1 : Ev} {Q : Fl → Ev → Prop} (h1 : Wd (m ρ) fun f ρ' => f = .next ∧ ρ' = ρ1) (h2 : Wd (mBlk ms ρ1) Q) : Wd (mBlk (m :: ms) ρ) Q := by
  rw [wd_blk_cons]
  refine h1.imp fun f ρ' ⟨e1, e2⟩ => ?_
  subst e1; subst e2
  exact h2
theorem st1 {f : D → Option RV} {d v : D} {xs es : List D} (hf : f d = some (.fr xs)) (hm : fMul (.list [.int 0]) d = some (.fr es)) :
    Wd (mPar [2, 3, 4] [mEsr (mUn f (mSlot 0)), mEsr (mBin fMul (mLst [mEsc (mC (.int 0))]) (mSlot 0)), mEsr (mSlot 0)] [some (.frz d), some (.frz v), none, none, none, none, none, none, none, none, none, none, none, none, none, none, none]) fun fl ρ' => fl = .next ∧ ρ' = [some (.frz d), some (.frz v), some (.own xs), some (.own es), some (.frz d), none, none, none, none, none, none, none, none, none, none, none, none] := by
  simp [hf, hm, lst1]
theorem st2 {f : D → Option RV} {d v : D} {xs rs es : List D} (hf : f d = some (.fr xs)) :
    Wd (mSet 5 (mUn f (mSlot 0)) [some (.frz d), some (.frz v), some (.own rs), some (.own es), some (.frz d), none, none, none, none, none, none, none, none, none, none, none, none]) fun fl ρ' => fl = .next ∧ ρ' = [some (.frz d), some (.frz v), some (.own rs), some (.own es), some (.frz d), some (.own xs), none, none, none, none, none, none, none, none, none, none, none] := by
  simp [hf]
theorem law_glued {n : Nat} (hn : n ≤ 8) {w : List Pc} (hw : w.length ≤ 400) {xs : List Int} (h : alongI n w = some xs) : resV (p__law_glued [.frz (.int (n : Nat)), .frz (wrdD w)]) = some (.fz (surfE (surfBy n w))) := by
  refine pf_ans ?_
  rw [glued_eq]
  refine blk_step (ρ1 := [some (.frz (.int (n : Nat))), some (.frz (wrdD w)), some (.own ((List.range n).map nD)), some (.own (euL n (List.range n) (List.range n) (List.range n) fun _ => 0)), some (.frz (.int (n : Nat))), none, none, none, none, none, none, none, none, none, none, none, none]) (st1 (rl1 hn) (rep0 hn)) ?_
  refine blk_step (ρ1 := gEnv n w ((List.range n).map nD) (euL n (List.range n) (List.range n) (List.range n) fun _ => 0) ((List.range n).map nD) n none none none none none) (st2 (rl1 hn)) ?_
  rw [wd_blk_cons]
  refine wd_forF w pcD (Igl n w) (ρ1 := gEnv n w ((List.range n).map nD) (euL n (List.range n) (List.range n) (List.range n) fun _ => 0) ((List.range n).map nD) n none none none none none) (by simp [wrdD, gEnv]) (igl_mk ⟨rep_mono (rep_plain hn) (by simp; omega), fun k hk => List.mem_range.mp hk, by simp; omega⟩ rfl rfl rfl rfl rfl rfl rfl rfl) (fun l1 q l2 ρ el ⟨ins, row, L, hh, F, x6, x7, x8, x9, x10, G, h6, h7, h8, h9, h10, e⟩ => ?_) fun ρ ⟨ins, row, L, hh, F, x6, x7, x8, x9, x10, G, h6, h7, h8, h9, h10, e⟩ => ?_
  · subst e
    have hl : l1.length ≤ 400 := by have := congrArg List.length el; simp at this; omega
    rw [el, show l1 ++ q :: l2 = (l1 ++ [q]) ++ l2 by simp] at h
    obtain ⟨ys, h⟩ := along_pre h
    obtain ⟨_, _, hf, _⟩ := along_inv h
    exact w_step h6 h7 h8 h9 h10 hl G hf
  · subst e
    have R := G.R
    have hF := G.hF
    have lr := R.lr
    have rm := R.m
    have rn := R.n
    have im : ins.length = n := by
      have : ∀ (w : List Pc) (s : Sf), (w.foldl ledS s).m = s.m := fun w => by
        induction w with
        | nil => intro s; rfl
        | cons q w ih => intro s; exact ih (ledS s q)
      have e : (surfBy n w).m = n := this w (plainS n)
      omega
    refine blk_step (ρ1 := gEnv n w (row.map nD) (euL F ins row L hh) (ins.map nD) F x6 x7 x8 x9 x10 |>.set 11 (some (.own [])) |>.set 12 (some (.own []))) (by simp [lst0, gEnv]) ?_
    rw [wd_blk_cons]
    refine wd_forI F nD (Ifi ins row L hh n F w x6 x7 x8 x9 x10) (ρ1 := gEnv n w (row.map nD) (euL F ins row L hh) (ins.map nD) F x6 x7 x8 x9 x10 |>.set 11 (some (.own [])) |>.set 12 (some (.own []))) (by simp [rgN (show F ≤ 1000 by omega), gEnv]) ⟨.own [], .own [], none, none, none, none, rfl, rfl, rfl, rfl, .inl ⟨rfl, rfl⟩, by simp [gEnv]⟩ (fun i ρ hi I => w_fin hn (by omega) (by omega) im h6 h7 hi I) fun ρ ⟨s11, s12, x13, x14, x15, x16, h13, h14, h15, h16, hs, e⟩ => ?_
    subst e
    have pT := (lv_perm (row := row) (ins := ins) R.nd G.lt (b := true)).map (ptK ins row hh)
    have pF := (lv_perm (row := row) (ins := ins) R.nd G.lt (b := false)).map hh
    have e1 : sortP ((lvL ins row L true F).map (ptK ins row hh)) = (surfBy n w).ps := by
      rw [rep_ps R]
      refine sortP_uniq (pT.trans (List.Perm.of_eq ?_))
      unfold psK
      congr 2
      funext k
      simp
    have e2 : sortI ((lvL ins row L false F).map hh) = (surfBy n w).sh := by
      rw [rep_sh R]
      refine sortI_uniq (pF.trans (List.Perm.of_eq ?_))
      unfold shK
      congr 2
      funext k
      simp
    have b1 : (lvL ins row L true F).length ≤ F := by have := List.length_filter_le (fun k => decide (k ∈ L) && (tch ins row k == true)) (List.range F); rw [List.length_range] at this; exact this
    have b2 : (lvL ins row L false F).length ≤ F := by have := List.length_filter_le (fun k => decide (k ∈ L) && (tch ins row k == false)) (List.range F); rw [List.length_range] at this; exact this
    have S1 := sorted_parts (ps := (lvL ins row L true F).map (ptK ins row hh)) (by simp; omega)
    have S2 := sorted_ints (ns := (lvL ins row L false F).map hh) (by simp; omega)
    rw [e1] at S1
    rw [e2] at S2
    generalize ((lvL ins row L true F).map (ptK ins row hh)).map partE = P at *
    generalize ((lvL ins row L false F).map hh).map PyData.int = S at *
    rw [wd_blk_cons]
    unfold gRet
    rcases hs with ⟨rfl, rfl⟩ | ⟨rfl, rfl⟩ <;>
    · simp [S1, S2, tup_list, tI_def, tup4]
      unfold surfE
      rw [rm, rn, im]
end La
set_option Elab.async false
set_option linter.all false
set_option maxRecDepth 100000
set_option maxHeartbeats 1000000
/-! Kp16: a random word that fits. -/
namespace La
open PySem L2 PyProof.Rows Pu
theorem some_ok {xs : List D} (hc : Cup xs) {vs : List D} (h0 : 0 < vs.length) (h1 : vs.length ≤ 1000) : ∃ v ys rest, p__law_some [.io xs, .frz (.list vs)] = .ok (.fz v) (some (.io ys) :: rest) ∧ Cup ys ∧ v ∈ vs := by
  have z : Wd (m__law_some [some (.io xs), some (.frz (.list vs))]) fun f ρ => ∃ v ys rest, f = .ret (.fz v) ∧ ρ = some (.io ys) :: rest ∧ Cup ys ∧ v ∈ vs := by
    unfold m__law_some
    simp
    refine wd_roll hc (by omega) (by omega) fun r ys hy r0 r1 => ?_
    have q : vs[r.toNat]? = some vs[r.toNat] := List.getElem?_eq_getElem (by omega)
    simp [atI_toNat r0, q, hy]
  obtain ⟨f, ρ, e, v, ys, rest, rfl, rfl, h1, h2⟩ := z.get
  exact ⟨v, ys, rest, pf_ret e, h1, h2⟩
theorem wd_some {ρ : Ev} {i : Nat} {hs : List Hd} {xs vs : List D} {Q : Hd → Ev → Prop} (hc : Cup xs) (h0 : 0 < vs.length) (h1 : vs.length ≤ 1000) (h : ∀ v ys, Cup ys → v ∈ vs → Q (.v (.fz v)) (setAt i ys ρ)) :
    Wd (callBack (.s i :: hs) [.io xs, .frz (.list vs)] ρ (p__law_some [.io xs, .frz (.list vs)])) Q := by
  obtain ⟨v, ys, rest, e, h2, h3⟩ := some_ok hc h0 h1
  rw [e]
  exact Wd.mk (h v ys h2 h3)
/-- fits, and has rims from 0 to 8 all along -/
def Wd8 (r : Int) (w : List Pc) : Prop := ∃ xs, alongI r w = some xs ∧ ∀ x ∈ xs, 0 ≤ x ∧ x ≤ 8
theorem wd8_nil {r : Int} (h0 : 0 ≤ r) (h1 : r ≤ 8) : Wd8 r [] := ⟨[r], rfl, fun x hx => by rw [List.mem_singleton.mp hx]; exact ⟨h0, h1⟩⟩
theorem along_fit {r : Int} {w : List Pc} {q : Pc} {xs : List Int} (h : alongI r w = some xs) (hf : fitsI (endI r w) q = true) : alongI r (w ++ [q]) = some (xs ++ [behindI (endI r w) q]) := by
  rw [along_snoc, h, stepA, Option.bind_some, along_last h, if_pos hf]
theorem wd8_snoc {r : Int} {w : List Pc} {q : Pc} (h : Wd8 r w) (hf : fitsI (endI r w) q = true) (h0 : 0 ≤ behindI (endI r w) q) (h1 : behindI (endI r w) q ≤ 8) : Wd8 r (w ++ [q]) := by
  obtain ⟨xs, e, hx⟩ := h
  refine ⟨_, along_fit e hf, fun x hxx => ?_⟩
  rcases List.mem_append.mp hxx with h | h
  · exact hx x h
  · rw [List.mem_singleton.mp h]; exact ⟨h0, h1⟩
theorem wd8_end {r : Int} {w : List Pc} (h : Wd8 r w) : 0 ≤ endI r w ∧ endI r w ≤ 8 := by
  obtain ⟨xs, e, hx⟩ := h
  rw [← along_last e]
  have ne := along_ne e
  have : xs.getLastD 0 ∈ xs := by
    rw [List.getLastD_eq_getLast?, List.getLast?_eq_some_getLast ne]
    exact List.getLast_mem ne
  exact hx _ this
theorem wd8_good {r : Int} {w : List Pc} (h : Wd8 r w) : goodB r w = true := by
  have := wd8_end h
  obtain ⟨xs, e, hx⟩ := h
  unfold goodB
  rw [e]
  simp
  exact ⟨fun x h => by have := hx x h; omega, this.2⟩
theorem ls7 (a b c d e f g : D) : fLst [a, b, c, d, e, f, g] = some (.fr [a, b, c, d, e, f, g]) := rfl
theorem lq_st : fEq (.str "start") (.str "start") = some (.fz (.bool true)) := rfl
theorem lsp_st : fIn false (.str "start") (.list [.str "start", .str "part"]) = some (.fz (.bool true)) := rfl
theorem ljs_st : fIn false (.str "start") (.list [.str "join", .str "swap"]) = some (.fz (.bool false)) := rfl
theorem lej_st : fIn false (.str "start") (.list [.str "end", .str "join"]) = some (.fz (.bool false)) := rfl
theorem lq_en : fEq (.str "end") (.str "start") = some (.fz (.bool false)) := rfl
theorem lsp_en : fIn false (.str "end") (.list [.str "start", .str "part"]) = some (.fz (.bool false)) := rfl
theorem ljs_en : fIn false (.str "end") (.list [.str "join", .str "swap"]) = some (.fz (.bool false)) := rfl
theorem lej_en : fIn false (.str "end") (.list [.str "end", .str "join"]) = some (.fz (.bool true)) := rfl
theorem lq_jo : fEq (.str "join") (.str "start") = some (.fz (.bool false)) := rfl
theorem lsp_jo : fIn false (.str "join") (.list [.str "start", .str "part"]) = some (.fz (.bool false)) := rfl
theorem ljs_jo : fIn false (.str "join") (.list [.str "join", .str "swap"]) = some (.fz (.bool true)) := rfl
theorem lej_jo : fIn false (.str "join") (.list [.str "end", .str "join"]) = some (.fz (.bool true)) := rfl
theorem lq_pa : fEq (.str "part") (.str "start") = some (.fz (.bool false)) := rfl
theorem lsp_pa : fIn false (.str "part") (.list [.str "start", .str "part"]) = some (.fz (.bool true)) := rfl
theorem ljs_pa : fIn false (.str "part") (.list [.str "join", .str "swap"]) = some (.fz (.bool false)) := rfl
theorem lej_pa : fIn false (.str "part") (.list [.str "end", .str "join"]) = some (.fz (.bool false)) := rfl
theorem lq_sw : fEq (.str "swap") (.str "start") = some (.fz (.bool false)) := rfl
theorem lsp_sw : fIn false (.str "swap") (.list [.str "start", .str "part"]) = some (.fz (.bool false)) := rfl
theorem ljs_sw : fIn false (.str "swap") (.list [.str "join", .str "swap"]) = some (.fz (.bool true)) := rfl
theorem lej_sw : fIn false (.str "swap") (.list [.str "end", .str "join"]) = some (.fz (.bool false)) := rfl
def Iwo (r most : Int) (dn : List D) (ρ : Ev) : Prop := ∃ cup w x5 x6 x7, Cup cup ∧ Wd8 r w ∧ w.length = dn.length ∧ ni x5 = true ∧ ni x6 = true ∧ ni x7 = true ∧ ρ = [some (.io cup), some (.frz (.int r)), some (.frz (.int most)), some (.frz (wrdD w)), some (.frz (.int (endI r w))), x5, x6, x7]
theorem add_wrd {w v : List Pc} (h : w.length + v.length ≤ 1000) : fAdd (wrdD w) (wrdD v) = some (.fz (wrdD (w ++ v))) := by
  unfold wrdD
  rw [add_tt (by simp; omega), List.map_append]
theorem wrd1 {k : Kn} {a : Int} : PyData.tuple [.tuple [.str (kS k), .int a]] = wrdD [(k, a)] := rfl
def wBody : M Fl := (mBlk [mSet 6 (mCall 2 p__law_some [mSlot 0, mEsc (mLst [mEsc (mC (.str ("start" : Str))), mEsc (mC (.str ("end" : Str))), mEsc (mC (.str ("join" : Str))), mEsc (mC (.str ("part" : Str))), mEsc (mC (.str ("swap" : Str))), mEsc (mC (.str ("join" : Str))), mEsc (mC (.str ("part" : Str)))])]), mIfS (mAnd (mBin fGt (mSlot 4) (mC (.int 7))) (mBin (fIn false) (mSlot 6) (mLst [mEsc (mC (.str ("start" : Str))), mEsc (mC (.str ("part" : Str)))]))) (mBlk [mSet 6 (mC (.str ("join" : Str)))]) (mBlk []), mIfS (mAnd (mBin fLt (mSlot 4) (mC (.int 2))) (mBin (fIn false) (mSlot 6) (mLst [mEsc (mC (.str ("join" : Str))), mEsc (mC (.str ("swap" : Str)))]))) (mBlk [mSet 6 (mC (.str ("part" : Str)))]) (mBlk []), mIfS (mBin fLt (mSlot 4) (mC (.int 1))) (mBlk [mSet 6 (mC (.str ("start" : Str)))]) (mBlk []), mSet 7 (mIf (mBin fEq (mSlot 6) (mC (.str ("start" : Str)))) (mBin fAdd (mSlot 4) (mC (.int 1))) (mIf (mBin (fIn false) (mSlot 6) (mLst [mEsc (mC (.str ("join" : Str))), mEsc (mC (.str ("swap" : Str)))])) (mBin fSub (mSlot 4) (mC (.int 1))) (mSlot 4))), mSet 3 (mBin fAdd (mSlot 3) (mTup [mEsc (mTup [mEsc (mSlot 6), mEsc (mCall 2 p__law_roll [mSlot 0, mEsc (mSlot 7)])])])), mSet 4 (mBin fAdd (mSlot 4) (mIf (mBin (fIn false) (mSlot 6) (mLst [mEsc (mC (.str ("start" : Str))), mEsc (mC (.str ("part" : Str)))])) (mC (.int 1)) (mIf (mBin (fIn false) (mSlot 6) (mLst [mEsc (mC (.str ("end" : Str))), mEsc (mC (.str ("join" : Str)))])) (mUn fNeg (mC (.int 1))) (mC (.int 0)))))])
theorem w_word {r most : Int} {dn : List D} {d : D} {ρ : Ev} (hd : dn.length ≤ 200) (I : Iwo r most dn ρ) : opP (asg (.n 5) d ρ) fun ρ1 => Wd (wBody ρ1) fun f ρ2 => f = .next ∧ Iwo r most (dn ++ [d]) ρ2 := by
  obtain ⟨cup, w, x5, x6, x7, hc, hw, hl, h5, h6, h7, e⟩ := I
  subst e
  have he := wd8_end hw
  have ad : ∀ k p, fAdd (wrdD w) (.tuple [.tuple [.str (kS k), .int p]]) = some (.fz (wrdD (w ++ [(k, p)]))) := fun k p => by
    rw [wrd1, add_wrd (by simp; omega)]
  have ad_st : ∀ p : Int, fAdd (wrdD w) (.tuple [.tuple [.str "start", .int p]]) = some (.fz (wrdD (w ++ [(.st, p)]))) := fun p => ad .st p
  have ad_en : ∀ p : Int, fAdd (wrdD w) (.tuple [.tuple [.str "end", .int p]]) = some (.fz (wrdD (w ++ [(.en, p)]))) := fun p => ad .en p
  have ad_jo : ∀ p : Int, fAdd (wrdD w) (.tuple [.tuple [.str "join", .int p]]) = some (.fz (wrdD (w ++ [(.jo, p)]))) := fun p => ad .jo p
  have ad_pa : ∀ p : Int, fAdd (wrdD w) (.tuple [.tuple [.str "part", .int p]]) = some (.fz (wrdD (w ++ [(.pa, p)]))) := fun p => ad .pa p
  have ad_sw : ∀ p : Int, fAdd (wrdD w) (.tuple [.tuple [.str "swap", .int p]]) = some (.fz (wrdD (w ++ [(.sw, p)]))) := fun p => ad .sw p
  have leaf : ∀ (k : Kn) (p m e2 : Int) (c : List D), Cup c → fitsI (endI r w) (k, p) = true → e2 = behindI (endI r w) (k, p) → 0 ≤ e2 → e2 ≤ 8 → Iwo r most (dn ++ [d]) [some (.io c), some (.frz (.int r)), some (.frz (.int most)), some (.frz (wrdD (w ++ [(k, p)]))), some (.frz (.int e2)), some (.frz d), some (.frz (.str (kS k))), some (.frz (.int m))] := fun k p m e2 c hc2 hf e1 e0 e8 => by
    subst e1
    exact ⟨c, w ++ [(k, p)], some (.frz d), some (.frz (.str (kS k))), some (.frz (.int m)), hc2, wd8_snoc hw hf e0 e8, by simp [hl], rfl, rfl, rfl, by rw [end_snoc]⟩
  generalize endI r w = e at *
  unfold wBody
  simp [h5, h6, h7, ls7]
  refine wd_some hc (Nat.le_of_ble_eq_true rfl) (Nat.le_of_ble_eq_true rfl) fun v c1 hc1 hv => ?_
  have hv : v = .str "start" ∨ v = .str "end" ∨ v = .str "join" ∨ v = .str "part" ∨ v = .str "swap" := by
    simp at hv
    rcases hv with h | h | h | h | h | h | h <;> simp [h]
  have tri : e = 0 ∨ e = 1 ∨ (2 ≤ e ∧ e ≤ 7) ∨ e = 8 := by omega
  rcases hv with rfl | rfl | rfl | rfl | rfl <;> rcases tri with rfl | rfl | ⟨q1, q2⟩ | rfl
  all_goals
    try have n7 : ¬ 7 < e := by omega
    try have n2 : ¬ e < 2 := by omega
    try have n1 : ¬ e < 1 := by omega
    simp [*, spL, jsL, ejL, lq_st, lsp_st, ljs_st, lej_st, lq_en, lsp_en, ljs_en, lej_en, lq_jo, lsp_jo, ljs_jo, lej_jo, lq_pa, lsp_pa, ljs_pa, lej_pa, lq_sw, lsp_sw, ljs_sw, lej_sw]
    refine wd_roll hc1 (by omega) (by omega) fun p c2 hc2 p0 p1 => ?_
    simp [tup1, tup2, ad_st, ad_en, ad_jo, ad_pa, ad_sw, spL, jsL, ejL, lq_st, lsp_st, ljs_st, lej_st, lq_en, lsp_en, ljs_en, lej_en, lq_jo, lsp_jo, ljs_jo, lej_jo, lq_pa, lsp_pa, ljs_pa, lej_pa, lq_sw, lsp_sw, ljs_sw, lej_sw]
    first
      | exact leaf .st p _ _ _ hc2 (by simp [fitsI]; try omega) (by simp [behindI]; try omega) (by omega) (by omega)
      | exact leaf .en p _ _ _ hc2 (by simp [fitsI]; try omega) (by simp [behindI]; try omega) (by omega) (by omega)
      | exact leaf .jo p _ _ _ hc2 (by simp [fitsI]; try omega) (by simp [behindI]; try omega) (by omega) (by omega)
      | exact leaf .pa p _ _ _ hc2 (by simp [fitsI]; try omega) (by simp [behindI]; try omega) (by omega) (by omega)
      | exact leaf .sw p _ _ _ hc2 (by simp [fitsI]; try omega) (by simp [behindI]; try omega) (by omega) (by omega)
theorem word_eq : m__law_word = mBlk [mPar [3, 4] [mEsr (mTup []), mEsr (mSlot 1)], mFor (mWalk fRange1 [mEsc (mCall 2 p__law_roll [mSlot 0, mEsc (mBin fAdd (mSlot 2) (mC (.int 1)))])]) (.n 5) wBody, mRet (mSlot 3)] := rfl
theorem word_run {r most : Int} {xs : List D} (hc : Cup xs) (h0 : 0 ≤ r) (h1 : r ≤ 8) (m0 : 0 ≤ most) (m1 : most ≤ 100) : Wd (m__law_word [some (.io xs), some (.frz (.int r)), some (.frz (.int most)), none, none, none, none, none]) fun f ρ => ∃ w ys rest, f = .ret (.fz (wrdD w)) ∧ ρ = some (.io ys) :: rest ∧ Cup ys ∧ Wd8 r w ∧ (w.length : Int) ≤ most := by
  rw [word_eq]
  refine blk_step (ρ1 := [some (.io xs), some (.frz (.int r)), some (.frz (.int most)), some (.frz (wrdD [])), some (.frz (.int r)), none, none, none]) (by simp [tup0]; rfl) ?_
  rw [wd_blk_cons]
  refine wd_for (Iwo r most) ?_
  refine Wd.imp (Q := fun ds ρ1 => ∃ k c1, Cup c1 ∧ 0 ≤ k ∧ k < most + 1 ∧ ds = (rngI k).map PyData.int ∧ ρ1 = [some (.io c1), some (.frz (.int r)), some (.frz (.int most)), some (.frz (wrdD [])), some (.frz (.int r)), none, none, none]) ?_ fun ds ρ1 ⟨k, c1, hc1, k0, k1, e1, e2⟩ => ?_
  · simp
    refine wd_roll hc (by omega) (by omega) fun k c1 hc1 k0 k1 => ?_
    simp [rg1 k0 (by omega)]
    exact ⟨k, c1, hc1, k0, k1, rfl, rfl⟩
  subst e1; subst e2
  refine ⟨⟨c1, [], none, none, none, hc1, wd8_nil h0 h1, rfl, rfl, rfl, rfl, rfl⟩, fun dn d rest ρ e I => ?_, fun ρ I => ?_⟩
  · have hd : dn.length ≤ 200 := by
      have := congrArg List.length e
      simp [rngI] at this
      omega
    have z := w_word (d := d) hd I
    cases ea : asg (.n 5) d ρ with
    | none => rw [ea] at z; exact z.elim
    | some ρa =>
      rw [ea] at z
      refine Wd.imp z fun fl ρ2 ⟨e1, h1⟩ => ?_
      subst e1
      exact h1
  · obtain ⟨cup, w, x5, x6, x7, hc2, hw, hl, h5, h6, h7, e⟩ := I
    subst e
    simp
    exact ⟨w, rfl, hc2, hw, by simp [rngI] at hl; omega⟩
end La
set_option Elab.async false
set_option linter.all false
set_option maxRecDepth 100000
set_option maxHeartbeats 1000000
/-! Kp17: bent words; alike. -/
namespace La
open PySem L2 PyProof.Rows Pu
theorem word_ok {r most : Int} {xs : List D} (hc : Cup xs) (h0 : 0 ≤ r) (h1 : r ≤ 8) (m0 : 0 ≤ most) (m1 : most ≤ 100) : ∃ w ys rest, p__law_word [.io xs, .frz (.int r), .frz (.int most)] = .ok (.fz (wrdD w)) (some (.io ys) :: rest) ∧ Cup ys ∧ Wd8 r w ∧ (w.length : Int) ≤ most := by
  obtain ⟨f, ρ, e, w, ys, rest, rfl, rfl, h2, h3, h4⟩ := (word_run hc h0 h1 m0 m1).get
  exact ⟨w, ys, rest, pf_ret e, h2, h3, h4⟩
theorem wd_word {ρ : Ev} {i : Nat} {hs : List Hd} {xs : List D} {r most : Int} {Q : Hd → Ev → Prop} (hc : Cup xs) (h0 : 0 ≤ r) (h1 : r ≤ 8) (m0 : 0 ≤ most) (m1 : most ≤ 100) (h : ∀ w ys, Cup ys → Wd8 r w → (w.length : Int) ≤ most → Q (.v (.fz (wrdD w))) (setAt i ys ρ)) :
    Wd (callBack (.s i :: hs) [.io xs, .frz (.int r), .frz (.int most)] ρ (p__law_word [.io xs, .frz (.int r), .frz (.int most)])) Q := by
  obtain ⟨w, ys, rest, e, h2, h3, h4⟩ := word_ok hc h0 h1 m0 m1
  rw [e]
  exact Wd.mk (h w ys h2 h3 h4)
theorem end_app {r : Int} {a b : List Pc} : endI r (a ++ b) = endI (endI r a) b := by unfold endI; rw [List.foldl_append]
def dK : Kn → Int
  | .st => 1
  | .pa => 1
  | .en => -1
  | .jo => -1
  | _ => 0
theorem beh_d {n : Int} {q : Pc} : behindI n q = n + dK q.1 := by
  obtain ⟨k, a⟩ := q
  cases k <;> simp [behindI, dK] <;> omega
theorem end_d {w : List Pc} : ∀ n : Int, endI n w = n + endI 0 w := by
  induction w with
  | nil => intro n; simp [endI]
  | cons q w ih =>
    intro n
    show endI (behindI n q) w = n + endI (behindI 0 q) w
    rw [ih, ih (behindI 0 q), beh_d, beh_d]
    omega
theorem dK_le (k : Kn) : -1 ≤ dK k ∧ dK k ≤ 1 := by cases k <;> simp [dK]
theorem along_pref {r : Int} {a b : List Pc} : ∀ {xs : List Int}, alongI r (a ++ b) = some xs → ∃ ys zs, alongI r a = some ys ∧ xs = ys ++ zs := by
  refine snocI (P := fun b => ∀ {xs : List Int}, alongI r (a ++ b) = some xs → ∃ ys zs, alongI r a = some ys ∧ xs = ys ++ zs) ?_ ?_ b
  · intro xs h
    rw [List.append_nil] at h
    exact ⟨xs, [], h, by simp⟩
  · intro b q ih xs h
    rw [← List.append_assoc] at h
    obtain ⟨ys, h1, _, h3⟩ := along_inv h
    obtain ⟨y1, z1, e1, e2⟩ := ih h1
    exact ⟨y1, z1 ++ [behindI (endI r (a ++ b)) q], e1, by rw [h3, e2, List.append_assoc]⟩
theorem wd8_pre {r : Int} {a b : List Pc} (h : Wd8 r (a ++ b)) : Wd8 r a := by
  obtain ⟨xs, e, hx⟩ := h
  obtain ⟨ys, zs, e1, e2⟩ := along_pref e
  exact ⟨ys, e1, fun x h => hx x (by rw [e2]; exact List.mem_append_left _ h)⟩
theorem along_mem {r : Int} {w : List Pc} : ∀ {xs : List Int} {x : Int}, alongI r w = some xs → x ∈ xs → ∃ a b, w = a ++ b ∧ x = endI r a := by
  refine snocI (P := fun w => ∀ {xs : List Int} {x : Int}, alongI r w = some xs → x ∈ xs → ∃ a b, w = a ++ b ∧ x = endI r a) ?_ ?_ w
  · intro xs x h hx
    cases h
    exact ⟨[], [], rfl, List.mem_singleton.mp hx⟩
  · intro w q ih xs x h hx
    obtain ⟨ys, h1, _, h3⟩ := along_inv h
    rw [h3] at hx
    rcases List.mem_append.mp hx with hx | hx
    · obtain ⟨a, b, e1, e2⟩ := ih h1 hx
      exact ⟨a, b ++ [q], by rw [e1, List.append_assoc], e2⟩
    · rw [List.mem_singleton] at hx
      exact ⟨w ++ [q], [], by simp, by rw [hx, end_snoc]⟩
/-- a word with one piece put in, and at most one left out -/
theorem bent_le {r : Int} {t m u : List Pc} {q : Pc} (h : Wd8 r (t ++ m ++ u)) (hm : m.length ≤ 1) {xs : List Int} (e : alongI r (t ++ q :: u) = some xs) : ∀ x ∈ xs, x ≤ 20 := by
  intro x hx
  obtain ⟨a, b, e1, e2⟩ := along_mem e hx
  have dm : -1 ≤ endI 0 m := by
    cases m with
    | nil => simp [endI]
    | cons p m =>
      have : m = [] := by cases m with
        | nil => rfl
        | cons _ _ => simp at hm
      subst this
      show -1 ≤ behindI 0 p
      rw [beh_d]
      have := dK_le p.1
      omega
  rcases List.append_eq_append_iff.mp e1 with ⟨a', h1, h2⟩ | ⟨c', h1, h2⟩
  · -- a = t ++ a'
    cases a' with
    | nil =>
      rw [List.append_nil] at h1
      subst h1
      have := wd8_end (wd8_pre (wd8_pre h))
      omega
    | cons p a' =>
      rw [List.cons_append, List.cons.injEq] at h2
      obtain ⟨rfl, h2⟩ := h2
      subst h1
      subst h2
      rw [← List.append_assoc] at h
      have z := wd8_end (wd8_pre h)
      rw [end_app, end_app, end_d, end_d (w := m)] at z
      rw [end_app] at e2
      have e3 : endI (endI r t) (q :: a') = endI (behindI (endI r t) q) a' := rfl
      rw [e3, end_d, beh_d] at e2
      have := dK_le q.1
      omega
  · subst h1
    rw [List.append_assoc, List.append_assoc] at h
    have := wd8_end (wd8_pre h)
    omega
theorem bent_good {r : Int} {t m u : List Pc} {q : Pc} (h : Wd8 r (t ++ m ++ u)) (hm : m.length ≤ 1) : goodB r (t ++ q :: u) = match alongI r (t ++ q :: u) with
    | some _ => decide (endI r (t ++ q :: u) < 9)
    | none => false := by
  unfold goodB
  cases e : alongI r (t ++ q :: u) with
  | none => rfl
  | some xs =>
    have := bent_le h hm e
    simp only [decide_eq_true this, Bool.true_and]
    rw [decide_eq_decide]
    omega
theorem lk_part {k : Nat} {p : Pt} (h1 : p.1.length ≤ 1000) (h2 : p.2.1.length ≤ 1000) : Lk (k + 3) (partE p) := lk_t (lk_cons (lk_tI h1) (lk_cons (lk_tI h2) (lk_cons lk_i lk_nil))) (Nat.le_of_ble_eq_true rfl)
theorem lk_surf {k : Nat} {s : Sf} (z : SzS s) : Lk (k + 5) (surfE s) := lk_t (lk_cons lk_i (lk_cons lk_i (lk_cons (lk_t (fun x hx => by
  obtain ⟨p, hp, rfl⟩ := List.mem_map.mp hx
  exact lk_part (z.p.i p hp) (z.p.o p hp)) (lim_of (by rw [List.length_map]; have := z.p.l; omega))) (lk_cons (lk_tI z.h) lk_nil)))) (Nat.le_of_ble_eq_true rfl)
end La
set_option Elab.async false
set_option linter.all false
set_option maxRecDepth 100000
set_option maxHeartbeats 1000000
/-! Kp18: words judged right. -/
namespace La
open PySem L2 PyProof.Rows Pu
theorem cut_wt {w : List Pc} {i : Nat} : fCut (wrdD w) none (some (i : Int)) = some (.fz (wrdD (w.take i))) := by
  show some (RV.fz (.tuple (cutD (w.map pcD) none (some (i : Int))))) = _
  rw [cutD_to, ← List.map_take]
  rfl
theorem cut_wd {w : List Pc} {i : Nat} : fCut (wrdD w) (some (i : Int)) none = some (.fz (wrdD (w.drop i))) := by
  show some (RV.fz (.tuple (cutD (w.map pcD) (some (i : Int)) none))) = _
  rw [cutD_from, ← List.map_drop]
  rfl
theorem len_wrd {w : List Pc} : fLen [wrdD w] = some (.fz (.int (w.length : Nat))) := by
  show some (RV.fz (.int (w.map pcD).length)) = _
  rw [List.length_map]
theorem rims_good {r : Int} {w : List Pc} (h : goodB r w = true) : rimsD r w = aloD r w := by
  unfold goodB at h
  unfold rimsD aloD
  cases e : alongI r w with
  | none => rfl
  | some xs =>
    rw [e] at h
    simp only [Bool.and_eq_true, decide_eq_true_eq] at h
    show (if ∀ x ∈ xs, x ≤ 20 then tI xs else .none) = tI xs
    rw [if_pos h.1]
theorem lk_alo {k : Nat} {r : Int} {w : List Pc} (hw : w.length ≤ 400) : Lk (k + 2) (aloD r w) := by
  unfold aloD
  cases e : alongI r w with
  | none => exact lk_n
  | some xs => exact lk_tI (by rw [along_len e]; omega)
theorem ls1k (a b c : D) : fLst [a, b, c] = some (.fr [a, b, c]) := rfl
theorem ls2k (a b : D) : fLst [a, b] = some (.fr [a, b]) := rfl
theorem ls6k (a b c d e f : D) : fLst [a, b, c, d, e, f] = some (.fr [a, b, c, d, e, f]) := rfl
theorem tb1 : tabF gl__law_words_right "rims_along" = some (2, p_rims_along) := rfl
theorem tb2 : tabF gl__law_words_right "surface_of_word" = some (2, p_surface_of_word) := rfl
theorem word_word : ht__law_error ⟨"InvalidWord", none⟩ = some (.str "word") := by rfl
theorem eq_ww : fEq (.list [.str "word", .str "word"]) (.list [.str "word", .str "word"]) = some (.fz (.bool true)) := by rfl
theorem bent_parts {w : List Pc} {i j : Nat} (hj : j ≤ 1) : ∃ m, w = w.take i ++ m ++ w.drop (i + j) ∧ m.length ≤ 1 := ⟨(w.drop i).take j, by
  rw [List.append_assoc, show w.drop (i + j) = (w.drop i).drop j by rw [List.drop_drop], List.take_append_drop, List.take_append_drop], by simp; omega⟩
/-- what the two checks tell of a word that does not fit -/
def tells : M Hd := mCompF 10 [10] ["rims_along", "surface_of_word"] (mC (.bool true)) (mTel ("none" : Str) ht__law_error (mCallV (tabF gl__law_words_right) 10 [mEsc (mSlot 1), mEsc (mSlot 6)]))
theorem tells_ok {a0 a2 a3 a4 a5 a7 a8 a9 : Option Sl} {r : Int} {v : List Pc} (h0 : 0 ≤ r) (h1 : r ≤ 8) (hv : v.length ≤ 400) (hg : goodB r v = false) : Wd (tells [a0, some (.frz (.int r)), a2, a3, a4, a5, some (.frz (wrdD v)), a7, a8, a9, none]) fun h ρ => h = .v (.fr [.str "word", .str "word"]) ∧ ρ = [a0, some (.frz (.int r)), a2, a3, a4, a5, some (.frz (wrdD v)), a7, a8, a9, none] := by
  have X1 := rims_along_x h0 h1 hv hg
  have X2 := surface_of_x h0 h1 hv hg
  unfold tells mCompF
  rw [wd_bind]
  refine wd_noExc ?_
  simp [compRunF, wipeE, over, putO]
  refine wd_telX ?_
  simp [mCallV, tb1, X1, word_word, compRunF, wipeE, over, putO]
  refine wd_telX ?_
  simp [mCallV, tb2, X2, word_word, backE, over]
theorem right_run {xs : List D} (hc : Cup xs) : Wd (m__law_words_right (some (.io xs) :: List.replicate 10 none)) fun f ρ => ∃ ys rest, f = .ret (.fz (.bool true)) ∧ ρ = some (.io ys) :: rest ∧ Cup ys := by
  unfold m__law_words_right
  simp
  refine wd_roll hc (by omega) (by omega) fun r c1 hc1 r0 r1 => ?_
  simp [ls1k]
  refine wd_some hc1 (Nat.le_of_ble_eq_true rfl) (Nat.le_of_ble_eq_true rfl) fun v c2 hc2 hv => ?_
  have hv : ∃ m : Int, v = .int m ∧ 0 ≤ m ∧ m ≤ 20 := by
    simp at hv
    rcases hv with h | h | h <;> exact ⟨_, h, by omega, by omega⟩
  obtain ⟨most, rfl, m0, m1⟩ := hv
  simp
  refine wd_word hc2 r0 (by omega) m0 (by omega) fun w c3 hc3 hw hl => ?_
  obtain ⟨n, rfl⟩ := nat_of r0
  have wl : w.length ≤ 400 := by omega
  have r8 : (n : Int) ≤ 8 := by omega
  have g := wd8_good hw
  obtain ⟨xs0, e0, _⟩ := good_along r0 r8 wl g
  have PW := piece_word r0 r8 wl
  rw [g] at PW
  have RA := rims_along r0 r8 wl g
  rw [rims_good g] at RA
  have SO := surface_of r0 r8 wl g
  have AL := law_along (r := (n : Int)) wl
  have GL := law_glued (show n ≤ 8 by omega) wl e0
  have SZ := word_sz r0 r8 wl e0
  have K1 : resV (p__law_like 20 [.frz (.list [.bool true, aloD n w, surfE (surfBy n w)]), .frz (.list [.bool true, aloD n w, surfE (surfBy n w)])]) = some (.fz (.bool true)) := lk_l (lk_cons lk_b (lk_cons (lk_alo wl) (lk_cons (lk_surf SZ) lk_nil))) (Nat.le_of_ble_eq_true rfl)
  simp [PW, RA, SO, AL, GL, ls1k, K1, len_wrd]
  refine wd_roll hc3 (by omega) (by omega) fun i c4 hc4 i0 i1 => ?_
  obtain ⟨i, rfl⟩ := nat_of i0
  simp [ls6k]
  refine wd_some hc4 (Nat.le_of_ble_eq_true rfl) (Nat.le_of_ble_eq_true rfl) fun v c5 hc5 hv => ?_
  have hv : ∃ k : Kn, v = .str (kS k) := by
    simp at hv
    rcases hv with h | h | h | h | h | h
    · exact ⟨.st, h⟩
    · exact ⟨.en, h⟩
    · exact ⟨.jo, h⟩
    · exact ⟨.pa, h⟩
    · exact ⟨.sw, h⟩
    · exact ⟨.tu, h⟩
  obtain ⟨k, rfl⟩ := hv
  simp
  refine wd_roll hc5 (by omega) (by omega) fun p c6 hc6 p0 p1 => ?_
  have a1 : fAdd (wrdD (w.take i)) (.tuple [.tuple [.str (kS k), .int (p - 1)]]) = some (.fz (wrdD (w.take i ++ [(k, p - 1)]))) := by
    rw [wrd1, add_wrd (by simp; omega)]
  simp [optM, tup1, tup2, cut_wt, a1]
  refine wd_roll hc6 (by omega) (by omega) fun j c7 hc7 j0 j1 => ?_
  obtain ⟨j, rfl⟩ := nat_of j0
  have cw : fCut (wrdD w) (some ((i : Int) + (j : Int))) none = some (.fz (wrdD (w.drop (i + j)))) := cut_wd (i := i + j)
  have a2 : fAdd (wrdD (w.take i ++ [(k, p - 1)])) (wrdD (w.drop (i + j))) = some (.fz (wrdD (w.take i ++ [(k, p - 1)] ++ w.drop (i + j)))) := add_wrd (by simp; omega)
  have V0 : w.take i ++ [(k, p - 1)] ++ w.drop (i + j) = w.take i ++ (k, p - 1) :: w.drop (i + j) := by simp
  rw [V0] at a2
  obtain ⟨m, em, hm⟩ := bent_parts (w := w) (i := i) (j := j) (by omega)
  have GD := bent_good (q := (k, p - 1)) (show Wd8 n (w.take i ++ m ++ w.drop (i + j)) by rw [← em]; exact hw) hm
  have vl : (w.take i ++ (k, p - 1) :: w.drop (i + j)).length ≤ 400 := by simp; omega
  generalize w.take i ++ (k, p - 1) :: w.drop (i + j) = v at *
  have PW2 := piece_word r0 r8 vl
  have AL2 := law_along (r := (n : Int)) vl
  have K2 : ∀ b : Bool, resV (p__law_like 20 [.frz (.bool b), .frz (.bool b)]) = some (.fz (.bool true)) := fun b => lk_b
  cases e : alongI n v with
  | none =>
    rw [e] at GD
    have g2 : goodB n v = false := GD
    rw [show aloD n v = .none by unfold aloD; rw [e]] at AL2
    rw [g2] at PW2
    simp [cw, a2, AL2, is_n_none, PW2, K2]
    refine Wd.imp (tells_ok r0 r8 vl g2) fun h ρ ⟨e1, e2⟩ => ?_
    subst e1; subst e2
    simp [ls2k, eq_ww, hc7]
  | some ys =>
    rw [e] at GD
    have g2 : goodB n v = decide (endI n v < 9) := GD
    have la := (last_at (along_ne e)).2
    rw [along_last e] at la
    rw [show aloD n v = tI ys by unfold aloD; rw [e]] at AL2
    rw [g2] at PW2
    have SO2 : endI n v < 9 → resV (p_surface_of_word [.frz (.int n), .frz (wrdD v)]) = some (.fz (surfE (surfBy n v))) := fun h => surface_of r0 r8 vl (by rw [g2]; exact decide_eq_true h)
    have AW := fun h : endI n v < 9 => alike_words r0 r8 wl vl g (by rw [g2]; exact decide_eq_true h)
    have GL2 := law_glued (show n ≤ 8 by omega) vl e
    have EQ := eq_surf (surfBy n w) (surfBy n v)
    have SZ2 := word_sz r0 r8 vl e
    have K3 : ∀ b : Bool, resV (p__law_like 20 [.frz (.list [surfE (surfBy n v), .bool b]), .frz (.list [surfE (surfBy n v), .bool b])]) = some (.fz (.bool true)) := fun b => lk_l (lk_cons (lk_surf SZ2) (lk_cons lk_b lk_nil)) (Nat.le_of_ble_eq_true rfl)
    simp [cw, a2, AL2, is_tI_none, la, PW2, K2]
    refine ⟨fun h => ?_, fun h => ?_⟩
    · simp [GL, GL2, EQ, SO2 h, AW h, ls2k, K3, hc7]
    · have g3 : goodB n v = false := by rw [g2]; exact decide_eq_false (by omega)
      refine Wd.imp (tells_ok r0 r8 vl g3) fun h ρ ⟨e1, e2⟩ => ?_
      subst e1; subst e2
      simp [ls2k, eq_ww, hc7]
theorem right_ok {xs : List D} (hc : Cup xs) : ∃ ys rest, p__law_words_right [.io xs] = .ok (.fz (.bool true)) (some (.io ys) :: rest) ∧ Cup ys := by
  obtain ⟨f, ρ, e, ys, rest, rfl, rfl, h1⟩ := (right_run hc).get
  exact ⟨ys, rest, pf_ret e, h1⟩
theorem wd_right {ρ : Ev} {i : Nat} {hs : List Hd} {xs : List D} {Q : Hd → Ev → Prop} (hc : Cup xs) (h : ∀ ys, Cup ys → Q (.v (.fz (.bool true))) (setAt i ys ρ)) : Wd (callBack (.s i :: hs) [.io xs] ρ (p__law_words_right [.io xs])) Q := by
  obtain ⟨ys, rest, e, h1⟩ := right_ok hc
  rw [e]
  exact Wd.mk (h ys h1)
end La
set_option Elab.async false
set_option linter.all false
set_option maxRecDepth 100000
set_option maxHeartbeats 1000000
/-! Kp19: pieces that change nothing, and one that leaves a mark. -/
namespace La
open PySem L2 PyProof.Rows Pu
theorem along_cat {r : Int} {a b : List Pc} {xs : List Int} (ha : alongI r a = some xs) : ∀ {ys : List Int}, alongI (endI r a) b = some ys → ∃ zs, alongI r (a ++ b) = some zs ∧ ∀ z ∈ zs, z ∈ xs ∨ z ∈ ys := by
  refine snocI (P := fun b => ∀ {ys : List Int}, alongI (endI r a) b = some ys → ∃ zs, alongI r (a ++ b) = some zs ∧ ∀ z ∈ zs, z ∈ xs ∨ z ∈ ys) ?_ ?_ b
  · intro ys _
    exact ⟨xs, by rw [List.append_nil]; exact ha, fun z h => .inl h⟩
  · intro b q ih ys h
    obtain ⟨y1, h1, h2, h3⟩ := along_inv h
    obtain ⟨zs, e1, e2⟩ := ih h1
    rw [← end_app] at h2 h3
    refine ⟨_, by rw [← List.append_assoc]; exact along_fit e1 h2, fun z hz => ?_⟩
    rw [h3]
    rcases List.mem_append.mp hz with h | h
    · rcases e2 z h with h | h
      · exact .inl h
      · exact .inr (List.mem_append_left _ h)
    · exact .inr (List.mem_append_right _ h)
/-- fits, with rims to 20 -/
def Wd20 (r : Int) (w : List Pc) : Prop := ∃ xs, alongI r w = some xs ∧ ∀ x ∈ xs, x ≤ 20
theorem wd20_of {r : Int} {w : List Pc} (h : Wd8 r w) : Wd20 r w := by
  obtain ⟨xs, e, hx⟩ := h
  exact ⟨xs, e, fun x h => by have := hx x h; omega⟩
theorem wd20_cat {r : Int} {a b : List Pc} (h : Wd20 r a) (g : Wd20 (endI r a) b) : Wd20 r (a ++ b) := by
  obtain ⟨xs, e, hx⟩ := h
  obtain ⟨ys, f, hy⟩ := g
  obtain ⟨zs, e1, e2⟩ := along_cat e f
  exact ⟨zs, e1, fun z hz => by rcases e2 z hz with h | h; exact hx z h; exact hy z h⟩
theorem wd20_good {r : Int} {w : List Pc} (h : Wd20 r w) (e : endI r w ≤ 8) : goodB r w = true := by
  obtain ⟨xs, e1, hx⟩ := h
  unfold goodB
  rw [e1]
  simp
  exact ⟨hx, e⟩
theorem surf_app {r : Int} {a b : List Pc} : surfBy r (a ++ b) = b.foldl ledS (surfBy r a) := by unfold surfBy; rw [List.foldl_append]
section
variable {n : Int} {a : Int}
theorem pre1_ok (a0 : 0 ≤ a) (a1 : a < n) (n8 : n ≤ 8) : Wd20 n [(.pa, a), (.en, a)] := ⟨[n, n + 1, n], by
  have e1 : fitsI n (.pa, a) = true := by simp [fitsI]; omega
  have e2 : fitsI (n + 1) (.en, a) = true := by simp [fitsI]; omega
  simp [alongI, stepA, e1, e2, behindI], fun x hx => by simp at hx; omega⟩
theorem pre2_ok (a0 : 0 ≤ a) (a1 : a < n) (n8 : n ≤ 8) : Wd20 n [(.st, a), (.jo, a)] := ⟨[n, n + 1, n], by
  have e1 : fitsI n (.st, a) = true := by simp [fitsI]; omega
  have e2 : fitsI (n + 1) (.jo, a) = true := by simp [fitsI]; omega
  simp [alongI, stepA, e1, e2, behindI], fun x hx => by simp at hx; omega⟩
theorem pre3_ok (a0 : 0 ≤ a) (a1 : a < n) (n8 : n ≤ 8) : Wd20 n [(.pa, a), (.sw, a), (.en, a + 1)] := ⟨[n, n + 1, n + 1, n], by
  have e1 : fitsI n (.pa, a) = true := by simp [fitsI]; omega
  have e2 : fitsI (n + 1) (.sw, a) = true := by simp [fitsI]; omega
  have e3 : fitsI (n + 1) (.en, a + 1) = true := by simp [fitsI]; omega
  simp [alongI, stepA, e1, e2, e3, behindI], fun x hx => by simp at hx; omega⟩
theorem pre0_ok (a0 : 0 ≤ a) (a1 : a ≤ n) (n8 : n ≤ 8) : Wd20 n [(.st, a), (.en, a)] := ⟨[n, n + 1, n], by
  have e1 : fitsI n (.st, a) = true := by simp [fitsI]; omega
  have e2 : fitsI (n + 1) (.en, a) = true := by simp [fitsI]; omega
  simp [alongI, stepA, e1, e2, behindI], fun x hx => by simp at hx; omega⟩
end
theorem map_ren_id {f x : Nat} {l : List Nat} (h : f ∉ l) : l.map (ren f x) = l := by
  rw [List.map_congr_left (g := id) fun k hk => by
    show ren f x k = k
    unfold ren
    rw [if_neg fun e => h (by rw [← e]; exact hk)]]
  exact List.map_id l
section
variable {N : Nat} {s : Sf} {ins row L : List Nat} {h : Nat → Int}
theorem pre1_id (R : Rep N s ins row L h) {a : Int} (a0 : 0 ≤ a) (a1 : a < s.n) : [(Kn.pa, a), (.en, a)].foldl ledS s = s := by
  have hn := R.n
  obtain ⟨i, rfl⟩ := nat_of a0
  obtain ⟨A, x, B, rfl, rfl⟩ := split1 (show i < row.length by omega)
  exact rep_uniq (rep_end (rep_part R)) R
theorem pre3_id (R : Rep N s ins row L h) {a : Int} (a0 : 0 ≤ a) (a1 : a < s.n) : [(Kn.pa, a), (.sw, a), (.en, a + 1)].foldl ledS s = s := by
  have hn := R.n
  obtain ⟨i, rfl⟩ := nat_of a0
  obtain ⟨A, x, B, rfl, rfl⟩ := split1 (show i < row.length by omega)
  have R2 := rep_swap (rep_part R)
  rw [← app2] at R2
  have R3 := rep_end R2
  rw [List.append_assoc, List.length_append] at R3
  exact rep_uniq R3 R
theorem pre2_id (R : Rep N s ins row L h) {a : Int} (a0 : 0 ≤ a) (a1 : a < s.n) : [(Kn.st, a), (.jo, a)].foldl ledS s = s := by
  have hn := R.n
  obtain ⟨i, rfl⟩ := nat_of a0
  obtain ⟨A, x, B, rfl, rfl⟩ := split1 (show i < row.length by omega)
  obtain ⟨f, hL⟩ := above L
  have fL : f ∉ L := fun e => by have := hL f e; omega
  have xL : x ∈ L := R.rL x (by simp)
  have fx : f ≠ x := fun e => fL (by rw [e]; exact xL)
  have R1 := rep_start (f := f) (rep_h R (h' := fun k => if k = f then 0 else h k) fun k hk => if_neg fun e : k = f => fL (by rw [← e]; exact hk)) fL (if_pos rfl)
  have R2 := rep_join2 (c := f) (d := x) R1 fx (.inl ⟨rfl, rfl⟩)
  have fr : f ∉ A ++ x :: B := fun e => fL (R.rL f e)
  have fA : f ∉ A := fun e => fr (by simp [e])
  have fB : f ∉ B := fun e => fr (by simp [e])
  have eL : (L ++ [f]).filter (fun k => !decide (k = f)) = L := by
    rw [List.filter_append, List.filter_eq_self.mpr fun k hk => by
      have : ¬ k = f := fun e => fL (by rw [← e]; exact hk)
      simp [this]]
    simp
  rw [map_ren_id fun e => fL (R.iL f e), map_ren_id fA, map_ren_id fB, eL] at R2
  refine rep_uniq R2 (rep_h R fun k hk => ?_)
  have kf : ¬ k = f := fun e => fL (by rw [← e]; exact hk)
  have xf : ¬ x = f := fun e => fx e.symm
  by_cases e : k = x
  · subst e; simp [xf]
  · simp [e, kf]
/-- alike but for one more shut piece -/
def Twin (s t : Sf) : Prop := s.m = t.m ∧ s.n = t.n ∧ s.ps = t.ps ∧ t.sh.length = s.sh.length + 1
theorem twin_step {s t : Sf} (T : Twin s t) (q : Pc) : Twin (ledS s q) (ledS t q) := by
  obtain ⟨h1, h2, h3, h4⟩ := T
  refine ⟨h1, by show behindI s.n q = behindI t.n q; rw [h2], by show sortP (ledP s.ps q) = sortP (ledP t.ps q); rw [h3], ?_⟩
  show (sortI (ledH t.ps t.sh q)).length = (sortI (ledH s.ps s.sh q)).length + 1
  rw [(sortI_perm _).length_eq, (sortI_perm _).length_eq, h3]
  obtain ⟨k, a⟩ := q
  cases k <;> simp [ledH] <;> omega
theorem twin_word {u : List Pc} : ∀ {s t : Sf}, Twin s t → Twin (u.foldl ledS s) (u.foldl ledS t) := by
  induction u with
  | nil => intro s t h; exact h
  | cons q u ih => intro s t h; exact ih (twin_step h q)
theorem twin_ne {s t : Sf} (T : Twin s t) : PyData.eqv (surfE s) (surfE t) = false := by
  rw [Bool.eq_false_iff]
  intro h
  have e := (eqv_surf s t).mp h
  unfold surfE at e
  simp only [PyData.tuple.injEq, List.cons.injEq, and_true] at e
  have := tI_inj _ _ e.2.2.2
  have h4 := T.2.2.2
  rw [this] at h4
  omega
theorem pre0_twin (R : Rep N s ins row L h) (n0 : s.n = 0) : Twin s ([(Kn.st, 0), (.en, 0)].foldl ledS s) := by
  have hn := R.n
  have : row = [] := by cases row with
    | nil => rfl
    | cons _ _ => simp at hn; omega
  subst this
  obtain ⟨f, hL⟩ := above L
  have fL : f ∉ L := fun e => by have := hL f e; omega
  have fI : f ∉ ins := fun e => fL (R.iL f e)
  have R0 := rep_h R (h' := fun k => if k = f then 0 else h k) fun k hk => if_neg fun e : k = f => fL (by rw [← e]; exact hk)
  have R1 := rep_start (A := []) (B := []) (f := f) R0 fL (if_pos rfl)
  have R2 := rep_end (A := []) R1
  have tf : tch ins [] f = false := by unfold tch; simp [fI]
  have P : psK ins [] (L ++ [f]) (fun k => if k = f then 0 else h k) = psK ins [] L fun k => if k = f then 0 else h k := by
    unfold psK
    rw [List.filter_append, List.filter_cons, if_neg (by rw [tf]; simp)]
    simp
  have S : (shK ins [] (L ++ [f]) fun k => if k = f then 0 else h k).length = (shK ins [] L fun k => if k = f then 0 else h k).length + 1 := by
    unfold shK
    rw [List.filter_append, List.filter_cons, if_pos (by rw [tf]; rfl)]
    simp
  refine ⟨rfl, ?_, ?_, ?_⟩
  · show s.n = s.n + 1 - 1; omega
  · rw [rep_ps R0, ← P]; exact (rep_ps R2).symm
  · rw [rep_sh R0]
    have e := rep_sh R2
    show (ledS (ledS s (.st, 0)) (.en, 0)).sh.length = _
    rw [show (ledS (ledS s (.st, 0)) (.en, 0)).sh = _ from e, (sortI_perm _).length_eq, (sortI_perm _).length_eq, ← S]
    rfl
end
end La
set_option Elab.async false
set_option linter.all false
set_option maxRecDepth 100000
set_option maxHeartbeats 1000000
/-! Kp20: joined words. -/
namespace La
open PySem L2 PyProof.Rows Pu
theorem tw0 {a : Int} : PyData.tuple [.tuple [.str "start", .int a], .tuple [.str "end", .int a]] = wrdD [(.st, a), (.en, a)] := rfl
theorem tw1 {a : Int} : PyData.tuple [.tuple [.str "part", .int a], .tuple [.str "end", .int a]] = wrdD [(.pa, a), (.en, a)] := rfl
theorem tw2 {a : Int} : PyData.tuple [.tuple [.str "start", .int a], .tuple [.str "join", .int a]] = wrdD [(.st, a), (.jo, a)] := rfl
theorem tw3 {a : Int} : PyData.tuple [.tuple [.str "part", .int a], .tuple [.str "swap", .int a], .tuple [.str "end", .int (a + 1)]] = wrdD [(.pa, a), (.sw, a), (.en, a + 1)] := rfl
theorem joined_vals {r : Int} {w1 w2 w3 p : List Pc} (r0 : 0 ≤ r) (r8 : r ≤ 8) (h1 : Wd8 r w1) (h2 : Wd8 (endI r w1) w2) (h3 : Wd8 (endI (endI r w1) w2) w3) (l1 : w1.length ≤ 6) (l2 : w2.length ≤ 6) (l3 : w3.length ≤ 6) (lp : p.length ≤ 3) (hp : Wd20 (endI r w1) p) (ep : endI (endI r w1) p = endI r w1) {b : Bool}
    (hb : ∀ (s : Sf) N ins row L h, Rep N s ins row L h → s.n = endI r w1 → ∀ u : List Pc, PyData.eqv (surfE (u.foldl ledS s)) (surfE (u.foldl ledS (p.foldl ledS s))) = b) :
    resV (p_are_alike_words [.frz (.int (endI r w1)), .frz (wrdD w2), .frz (wrdD (p ++ w2))]) = some (.fz (.bool b)) ∧ resV (p_are_alike_words [.frz (.int r), .frz (wrdD (w1 ++ w2 ++ w3)), .frz (wrdD (w1 ++ (p ++ w2) ++ w3))]) = some (.fz (.bool b)) := by
  have e1 := wd8_end h1
  have e2 := wd8_end h2
  have e3 := wd8_end h3
  have g2 : Wd20 (endI r w1) (p ++ w2) := wd20_cat hp (by rw [ep]; exact wd20_of h2)
  have f2 : endI (endI r w1) (p ++ w2) = endI (endI r w1) w2 := by rw [end_app, ep]
  have g3 : Wd20 r (w1 ++ w2 ++ w3) := wd20_cat (wd20_cat (wd20_of h1) (wd20_of h2)) (by rw [end_app]; exact wd20_of h3)
  have g4 : Wd20 r (w1 ++ (p ++ w2) ++ w3) := wd20_cat (wd20_cat (wd20_of h1) g2) (by rw [end_app, f2]; exact wd20_of h3)
  constructor
  · rw [alike_words e1.1 e1.2 (by omega) (by simp; omega) (wd8_good h2) (wd20_good g2 (by rw [f2]; exact e2.2))]
    obtain ⟨m, em⟩ := nat_of e1.1
    obtain ⟨_, _, _, _, R⟩ := rep_word (n := m) (by omega) (w := []) rfl
    rw [em] at hb ⊢
    have z := hb _ _ _ _ _ _ R rfl w2
    rw [surf_app]
    have z2 : PyData.eqv (surfE (surfBy m w2)) (surfE (w2.foldl ledS (surfBy m p))) = b := z
    rw [z2]
  · rw [alike_words r0 r8 (by simp; omega) (by simp; omega) (wd20_good g3 (by rw [end_app, end_app]; exact e3.2)) (wd20_good g4 (by rw [end_app, end_app, f2]; exact e3.2))]
    obtain ⟨n, rfl⟩ := nat_of r0
    obtain ⟨xs, ex, _⟩ := h1
    obtain ⟨_, _, _, _, R⟩ := rep_word (n := n) (by omega) ex
    have z := hb _ _ _ _ _ _ R surf_n (w2 ++ w3)
    rw [List.append_assoc, surf_app, show w1 ++ (p ++ w2) ++ w3 = w1 ++ (p ++ (w2 ++ w3)) by simp, surf_app, List.foldl_append (l := p), z]
theorem pre_same {e : Int} {p : List Pc} (hid : ∀ (s : Sf) N ins row L h, Rep N s ins row L h → s.n = e → p.foldl ledS s = s) (s : Sf) (N : Nat) (ins row L : List Nat) (h : Nat → Int) (R : Rep N s ins row L h) (hn : s.n = e) (u : List Pc) : PyData.eqv (surfE (u.foldl ledS s)) (surfE (u.foldl ledS (p.foldl ledS s))) = true := by
  rw [hid s N ins row L h R hn]
  exact (eqv_surf _ _).mpr rfl
theorem last_alo {r : Int} {w : List Pc} (h : Wd8 r w) : fItem (aloD r w) (.int (-1)) = some (.fz (.int (endI r w))) := by
  obtain ⟨xs, e, _⟩ := h
  have := (last_at (along_ne e)).2
  rw [along_last e] at this
  unfold aloD
  rw [e]
  exact this
theorem joined_run {xs : List D} (hc : Cup xs) : Wd (m__law_joined_right (some (.io xs) :: List.replicate 8 none)) fun f ρ => ∃ ys rest, f = .ret (.fz (.bool true)) ∧ ρ = some (.io ys) :: rest ∧ Cup ys := by
  unfold m__law_joined_right
  simp
  refine wd_roll hc (by omega) (by omega) fun r c1 hc1 r0 r1 => ?_
  simp
  refine wd_word hc1 r0 (by omega) (by omega) (by omega) fun w1 c2 hc2 h1 l1 => ?_
  have r8 : r ≤ 8 := by omega
  have AL1 := law_along (r := r) (w := w1) (by omega)
  have e1 := wd8_end h1
  simp [AL1, last_alo h1]
  refine wd_word hc2 e1.1 e1.2 (by omega) (by omega) fun w2 c3 hc3 h2 l2 => ?_
  have AL2 := law_along (r := endI r w1) (w := w2) (by omega)
  have e2 := wd8_end h2
  simp
  refine wd_roll hc3 (by omega) (by omega) fun a c4 hc4 a0 a1 => ?_
  have q0 : fAdd (wrdD [(.st, a), (.en, a)]) (wrdD w2) = some (.fz (wrdD ([(.st, a), (.en, a)] ++ w2))) := add_wrd (by simp; omega)
  have K : ∀ b : Bool, resV (p__law_like 20 [.frz (.list [.bool b, .bool b]), .frz (.list [.bool b, .bool b])]) = some (.fz (.bool true)) := fun b => lk_l (lk_cons lk_b (lk_cons lk_b lk_nil)) (Nat.le_of_ble_eq_true rfl)
  have A1 : fAdd (wrdD w1) (wrdD w2) = some (.fz (wrdD (w1 ++ w2))) := add_wrd (by omega)
  have A2 : ∀ w3 : List Pc, w3.length ≤ 6 → fAdd (wrdD (w1 ++ w2)) (wrdD w3) = some (.fz (wrdD (w1 ++ w2 ++ w3))) := fun w3 h => add_wrd (by simp; omega)
  have A3 : ∀ p : List Pc, p.length ≤ 3 → fAdd (wrdD w1) (wrdD (p ++ w2)) = some (.fz (wrdD (w1 ++ (p ++ w2)))) := fun p h => add_wrd (by simp; omega)
  have A4 : ∀ p w3 : List Pc, p.length ≤ 3 → w3.length ≤ 6 → fAdd (wrdD (w1 ++ (p ++ w2))) (wrdD w3) = some (.fz (wrdD (w1 ++ (p ++ w2) ++ w3))) := fun p w3 h h2 => add_wrd (by simp; omega)
  simp [tup2, tw0, q0]
  have fin : ∀ (c : List D) (a5 : Option Sl) (p : List Pc), Cup c → p.length ≤ 3 → Wd20 (endI r w1) p → endI (endI r w1) p = endI r w1 → ∀ b : Bool, (∀ (s : Sf) N ins row L h, Rep N s ins row L h → s.n = endI r w1 → ∀ u : List Pc, PyData.eqv (surfE (u.foldl ledS s)) (surfE (u.foldl ledS (p.foldl ledS s))) = b) → b = decide (0 < endI r w1) →
      Wd (mBlk [mSet 7 (mCall 3 p__law_word [mSlot 0, mEsc (mBin fItem (mCall 2 p__law_along [mEsc (mSlot 3), mEsc (mSlot 4)]) (mUn fNeg (mC (.int 1)))), mEsc (mC (.int 6))]), mSet 8 (mLst [mEsc (mCall 3 p_are_alike_words [mEsc (mSlot 3), mEsc (mSlot 4), mEsc (mSlot 6)]), mEsc (mCall 3 p_are_alike_words [mEsc (mSlot 1), mEsc (mBin fAdd (mBin fAdd (mSlot 2) (mSlot 4)) (mSlot 7)), mEsc (mBin fAdd (mBin fAdd (mSlot 2) (mSlot 6)) (mSlot 7))])]), mRet (mCall 2 (p__law_like 20) [mEsc (mSlot 8), mEsc (mLst [mEsc (mBin fGt (mSlot 3) (mC (.int 0))), mEsc (mBin fGt (mSlot 3) (mC (.int 0)))])])]
        [some (.io c), some (.frz (.int r)), some (.frz (wrdD w1)), some (.frz (.int (endI r w1))), some (.frz (wrdD w2)), a5, some (.frz (wrdD (p ++ w2))), none, none]) fun f ρ => ∃ ys rest, f = .ret (.fz (.bool true)) ∧ ρ = some (.io ys) :: rest ∧ Cup ys := fun c a5 p hcc lp hp ep b hb eb => by
    simp [AL2, last_alo h2]
    refine wd_word hcc e2.1 e2.2 (by omega) (by omega) fun w3 c6 hc6 h3 l3 => ?_
    obtain ⟨V1, V2⟩ := joined_vals r0 r8 h1 h2 h3 (by omega) (by omega) (by omega) lp hp ep hb
    have A2' := A2 w3 (by omega)
    have A3' := A3 p lp
    have A4' := A4 p w3 lp (by omega)
    generalize p ++ w2 = pw at *
    generalize w1 ++ w2 = w12 at *
    generalize w1 ++ pw = w1p at *
    generalize w12 ++ w3 = w123 at *
    generalize w1p ++ w3 = w1p3 at *
    subst eb
    simp [V1, V2, A1, A2', A3', A4', ls2k, K, hc6]
  refine ⟨fun hpos => ?_, fun hz => ?_⟩
  · refine wd_roll hc4 (by omega) (by omega) fun a c5 hc5 a0 a1 => ?_
    simp [tup2, tup3, tw1, tw2, tw3, ls1k]
    refine wd_some hc5 (Nat.le_of_ble_eq_true rfl) (Nat.le_of_ble_eq_true rfl) fun v c6 hc6 hv => ?_
    have hv : ∃ p : List Pc, v = wrdD p ∧ p.length ≤ 3 ∧ Wd20 (endI r w1) p ∧ endI (endI r w1) p = endI r w1 ∧ ∀ (s : Sf) N ins row L h, Rep N s ins row L h → s.n = endI r w1 → p.foldl ledS s = s := by
      simp only [List.mem_cons, List.not_mem_nil, or_false] at hv
      rcases hv with rfl | rfl | rfl
      · exact ⟨_, rfl, Nat.le_of_ble_eq_true rfl, pre1_ok a0 a1 e1.2, by simp [endI, behindI], fun s N ins row L h R hn => pre1_id R a0 (by omega)⟩
      · exact ⟨_, rfl, Nat.le_of_ble_eq_true rfl, pre2_ok a0 a1 e1.2, by simp [endI, behindI], fun s N ins row L h R hn => pre2_id R a0 (by omega)⟩
      · exact ⟨_, rfl, Nat.le_of_ble_eq_true rfl, pre3_ok a0 a1 e1.2, by simp [endI, behindI], fun s N ins row L h R hn => pre3_id R a0 (by omega)⟩
    obtain ⟨p, rfl, lp, hp, ep, hid⟩ := hv
    have qp : fAdd (wrdD p) (wrdD w2) = some (.fz (wrdD (p ++ w2))) := add_wrd (by omega)
    simp [qp]
    have z := fin c6 (some (.frz (.int a))) p hc6 lp hp ep true (pre_same hid) (by simp [hpos])
    simpa using z
  · have a00 : a = 0 := by omega
    subst a00
    have z := fin c4 (some (.frz (.int 0))) [(.st, 0), (.en, 0)] hc4 (Nat.le_of_ble_eq_true rfl) (pre0_ok (by omega) (by omega) e1.2) (by simp [endI, behindI]) false (fun s N ins row L h R hn u => twin_ne (twin_word (pre0_twin R (by omega)))) (by simp; omega)
    simpa using z
theorem joined_ok {xs : List D} (hc : Cup xs) : ∃ ys rest, p__law_joined_right [.io xs] = .ok (.fz (.bool true)) (some (.io ys) :: rest) ∧ Cup ys := by
  obtain ⟨f, ρ, e, ys, rest, rfl, rfl, h1⟩ := (joined_run hc).get
  exact ⟨ys, rest, pf_ret e, h1⟩
theorem wd_joined {ρ : Ev} {i : Nat} {hs : List Hd} {xs : List D} {Q : Hd → Ev → Prop} (hc : Cup xs) (h : ∀ ys, Cup ys → Q (.v (.fz (.bool true))) (setAt i ys ρ)) : Wd (callBack (.s i :: hs) [.io xs] ρ (p__law_joined_right [.io xs])) Q := by
  obtain ⟨ys, rest, e, h1⟩ := joined_ok hc
  rw [e]
  exact Wd.mk (h ys h1)
end La
set_option Elab.async false
set_option linter.all false
set_option maxRecDepth 100000
set_option maxHeartbeats 1000000
/-! Kp21: the law. -/
namespace La
open PySem L2 PyProof.Rows Pu
def resIo (r : Res RV) : Option (RV × List D) := match r with
  | .ok v (some (.io xs) :: _) => some (v, xs)
  | _ => none
set_option maxHeartbeats 0 in
theorem limits (xs : List D) : resIo (p__law_limits_right [.io xs]) = some (.fz (.bool true), xs) := by kernel_rfl
theorem wd_limits {ρ : Ev} {i : Nat} {hs : List Hd} {xs : List D} {Q : Hd → Ev → Prop} (h : Q (.v (.fz (.bool true))) (setAt i xs ρ)) : Wd (callBack (.s i :: hs) [.io xs] ρ (p__law_limits_right [.io xs])) Q := by
  have z := limits xs
  unfold resIo at z
  split at z
  · rename_i v ys rest e
    cases z
    rw [e]
    exact Wd.mk h
  · cases z
def Ila (ns : List Int) (dn : List D) (ρ : Ev) : Prop := ∃ (cup : List D) (x : Option Sl), Cup cup ∧ ni x = true ∧ ρ = [some (.frz (.list (dInts ns))), some (.own cup), x]
theorem pure_law (ns : List Int) (hl : ns.length ≤ 63) : ∃ ρ', p_law [.frz (.list (dInts ns))] = .ok (.fz (.bool true)) ρ' := by
  have z : Wd (m_law [some (.frz (.list (dInts ns))), none, none]) fun f _ => f = .ret (.fz (.bool true)) := by
    obtain ⟨c0, hc0, ec⟩ := cup_ok ns hl
    have e8 := rg1 (n := 8) (by omega) (by omega)
    unfold m_law
    simp [ec]
    refine wd_limits ?_
    simp
    refine wd_forN ((rngI 8).map PyData.int) (Ila ns) (wd_walk1 (v := .int 8) (by simp) e8) ⟨c0, none, hc0, rfl, rfl⟩ (fun dn d rest ρ _ ⟨cup, x, hc, hx, e⟩ => ?_) fun ρ ⟨cup, x, hc, hx, e⟩ => ?_
    · subst e
      simp [hx]
      refine wd_right hc fun ys hy => ?_
      simp
      refine wd_joined hy fun zs hz => ?_
      simp
      exact ⟨zs, _, hz, rfl, rfl⟩
    · subst e
      simp
  obtain ⟨f, ρ, e, rfl⟩ := z.get
  exact ⟨ρ, pf_ret e⟩
end La
set_option Elab.async false
set_option linter.all false
set_option maxRecDepth 100000
set_option maxHeartbeats 0
section
/-! ### the head: the run of the top -/
namespace La
open PySem L2 PyProof.Rows Pu
def loose0 : List Str := ["SurfaceError", "InvalidNumber", "InvalidWord", "is_whole", "need_whole", "is_tuple_of", "RIMS", "plain_in", "PIECES", "WIDE", "KINDS", "is_piece_of", "rims_behind", "rims_of", "is_word_from", "need_rims", "need_word", "shifted", "exchanged", "parted", "without", "ended", "grown", "led_by", "surface_by", "is_piece_word", "rims_along", "surface_of_word", "are_alike_words", "_law_cup"]
def loose1 : List Str := ["_law_roll", "_law_some", "_law_sort", "_law_like", "_law_error", "_law_word", "_law_glued", "_law_along", "_law_words_right", "_law_joined_right", "_law_limits_right"]
abbrev looseL : List Str := loose0 ++ loose1
abbrev rowL : PySem.W.OpenRow := PySem.W.OpenLaw.row PySem.Challenge.rw_surfacestell_k15_whole_piece_words
abbrev hookL : PySem.W.Hook := hookP 4 faL fnL exL
def obL (s : PySem.W.SharedT) : He.AlD × Bool := obP 4 faL fnL exL (HandSHeadRun.getT s)
theorem obL_eq (s : PySem.W.SharedT) : obL s = hookL.obs s.abs := obP_eq (HandSHeadRun.getT_eq s)
theorem runL (w : World) : HandSHeadRun.RunEq rowL (PySem.W.view rowL.prog [46]) hookL obL 3420 looseL w := by
  intro os
  kernel_rfl
theorem pure_end (hpf : ∀ ns : List Int, ns.length ≤ 63 → ∃ ρ', p_law [.frz (.list (dInts ns))] = .ok (.fz (.bool true)) ρ') : PySem.Challenge.rw_surfacestell_k15_whole_piece_words.Holds := by
  w_on; o_law
  refine HandSHeadRun.head_any (r := rowL) (H := hookL) (ob := obL) (q := PySem.W.view rowL.prog [46]) (d := HandSHeadRun.topDef rowL.prog 46) (loose := looseL) (kwd := []) (M := 3420) obL_eq
    (by kernel_rfl) (fun s => by kernel_rfl) runL (by kernel_rfl) (by kernel_rfl) (by kernel_rfl) (by rfl) (by first | assumption | decide +kernel) (by decide +kernel) ⟨rfl, rfl, rfl, rfl, rfl, by decide +kernel⟩ ?hw ?hc
  case hw => w_witness2
  case hc =>
    refine walk_pu (l := PySem.Challenge.rw_surfacestell_k15_whole_piece_words) (k := 26) (x := "script") (pf := p_law) (XR := XRK) rfl (by kernel_rfl) ⟨rfl, by decide, by decide⟩ hpf fun w mg fa h K c G gm => ?_
    have e0 : (HandSHeadRun.topDef rowL.prog 46).name = ("law" : Str) := by kernel_rfl
    rw [e0] at gm
    cases gm.symm.trans (He.glo_ok c.inn G (c.d.fact 33 (f := .glo "law") rfl))
    obtain ⟨fd, FD⟩ := c.d.def_ 33 (d := d_law) rfl
    exact ⟨fd, fun s u => FunD.bindsA (ps := ps_law) FD (fun _ _ _ _ _ _ us hl => match us, hl with | [_], _ => rfl) s [u] rfl, fun base _ _ tb => fk_law c.inn G c.d c.ex ⟨tb, c.nd, (Bool.and_eq_true_iff.mp c.ex).1⟩ FD⟩
end La
end
set_option maxHeartbeats 0
theorem PySem.Challenge.cw_surfacestell_k15_whole_piece_words_holds : PySem.Challenge.rw_surfacestell_k15_whole_piece_words.Holds := by
  exact La.pure_end La.pure_law
