import PyProof.Rows.All
import Wide.All
import OpenK.AllK
import Wide.FinOn
import PyProof.StrOps2
import HandS.ForMost
import HandS.Evl
import HandS.Star
import HandS.Walk
import PySem.Challenge.RW_stillroom_k19_whole_nothing_twice
import KE.DataEq
import HandS.IsInst
set_option Elab.async false
set_option linter.all false
set_option maxRecDepth 100000
set_option maxHeartbeats 4000000
/-! A layer of data over the hand layer: what an expression of the program evaluates to, in plain data; what a block does to the slots. -/
namespace K9
open PySem PySem.Spec PyProof.Rows L2 Evl
/-! ### data in the heap -/
abbrev scr (ns : List Int) : PyData := .dict (ns.map fun n => (.int n, .none))
inductive Dt (K : PySem.W.Frag) (G : Hp) : V → PyData → Prop
  | non : Dt K G .non .none
  | bl (b : Bool) : Dt K G (.bl b) (.bool b)
  | int (i : Int) : Dt K G (.int i) (.int i)
  | str (x : Str) : Dt K G (.str x) (.str x)
  | lst {a : Addr} {xs : List V} {ds : List PyData} : G a = some (.lst xs) → xs.length = ds.length → (∀ (i : Nat) v d, xs[i]? = some v → ds[i]? = some d → Dt K G v d) → Dt K G (.ref a) (.list ds)
  | tup {a : Addr} {xs : List V} {ds : List PyData} : SqT K G a xs → xs.length = ds.length → (∀ (i : Nat) v d, xs[i]? = some v → ds[i]? = some d → Dt K G v d) → Dt K G (.ref a) (.tuple ds)
  | scr {a : Addr} {ns : List Int} : SqL K G a (ns.map V.int) → Dt K G (.ref a) (scr ns)
def Da (K : PySem.W.Frag) (G : Hp) (xs : List V) (ds : List PyData) : Prop :=
  xs.length = ds.length ∧ ∀ (i : Nat) v d, xs[i]? = some v → ds[i]? = some d → Dt K G v d
section
variable {K : PySem.W.Frag} {G G' H H' : Hp} {v : V} {d : PyData} {vs ws : List V} {ds es : List PyData}
theorem Dt.mono (e : Ex G G') (h : Dt K G v d) : Dt K G' v d := by
  induction h with
  | non => exact .non
  | bl b => exact .bl b
  | int i => exact .int i
  | str x => exact .str x
  | lst h l _ ih => exact .lst (e _ _ h) l ih
  | tup h l _ ih => exact .tup (ex_t e h) l ih
  | scr h => exact .scr (ex_l e h)
theorem Da.mono (e : Ex G G') (h : Da K G vs ds) : Da K G' vs ds := ⟨h.1, fun i v d a b => (h.2 i v d a b).mono e⟩
theorem Da.nil : Da K G [] [] := ⟨rfl, fun i v d a _ => by simp at a⟩
theorem Da.cons (h : Dt K G v d) (t : Da K G vs ds) : Da K G (v :: vs) (d :: ds) := by
  refine ⟨by simp [t.1], fun i u e a b => ?_⟩
  cases i with
  | zero =>
    simp at a b
    subst a b
    exact h
  | succ i =>
    simp at a b
    exact t.2 i u e a b
theorem Da.append (h : Da K G vs ds) (t : Da K G ws es) : Da K G (vs ++ ws) (ds ++ es) := by
  refine ⟨by simp [h.1, t.1], fun i u e a b => ?_⟩
  by_cases hi : i < vs.length
  · rw [List.getElem?_append_left hi] at a
    rw [List.getElem?_append_left (by rw [← h.1]; exact hi)] at b
    exact h.2 i u e a b
  · rw [List.getElem?_append_right (by omega)] at a
    rw [List.getElem?_append_right (by rw [← h.1]; omega), ← h.1] at b
    exact t.2 _ u e a b
theorem Da.snoc (h : Da K G vs ds) (t : Dt K G v d) : Da K G (vs ++ [v]) (ds ++ [d]) := h.append (.cons t .nil)
theorem Da.drop (n : Nat) (h : Da K G vs ds) : Da K G (vs.drop n) (ds.drop n) := by
  refine ⟨by simp [h.1], fun i u e a b => ?_⟩
  rw [List.getElem?_drop] at a b
  exact h.2 _ u e a b
theorem Da.take (n : Nat) (h : Da K G vs ds) : Da K G (vs.take n) (ds.take n) := by
  refine ⟨by simp [h.1], fun i u e a b => ?_⟩
  rw [List.getElem?_take] at a b
  split at a
  · rename_i hi
    rw [if_pos hi] at b
    exact h.2 _ u e a b
  · cases a
theorem Da.set (h : Da K G vs ds) (t : Dt K G v d) (j : Nat) : Da K G (vs.set j v) (ds.set j d) := by
  refine ⟨by simp [h.1], fun i u e a b => ?_⟩
  by_cases hj : j = i
  · subst hj
    by_cases hl : j < vs.length
    · rw [List.getElem?_set_self hl] at a
      rw [List.getElem?_set_self (by rw [← h.1]; exact hl)] at b
      cases a
      cases b
      exact t
    · rw [List.getElem?_eq_none (by simpa using hl)] at a
      cases a
  · rw [List.getElem?_set_ne hj] at a b
    exact h.2 _ u e a b
theorem Da.at {i : Nat} (h : Da K G vs ds) (e : ds[i]? = some d) : ∃ v, vs[i]? = some v ∧ Dt K G v d := by
  have hi : i < ds.length := (List.getElem?_eq_some_iff.mp e).1
  have hi' : i < vs.length := by rw [h.1]; exact hi
  exact ⟨vs[i], List.getElem?_eq_getElem hi', h.2 i _ _ (List.getElem?_eq_getElem hi') e⟩
theorem Da.tail {u : V} {e : PyData} (h : Da K G (u :: vs) (e :: ds)) : Da K G vs ds := h.drop 1
theorem Da.head {u : V} {e : PyData} (h : Da K G (u :: vs) (e :: ds)) : Dt K G u e := h.2 0 u e rfl rfl
theorem Da.nil_inv (h : Da K G vs []) : vs = [] := List.eq_nil_of_length_eq_zero h.1
theorem Da.cons_inv {e : PyData} (h : Da K G vs (e :: ds)) : ∃ u us, vs = u :: us ∧ Dt K G u e ∧ Da K G us ds := by
  cases vs with
  | nil => exact absurd h.1 (by simp)
  | cons u us => exact ⟨u, us, rfl, h.head, h.tail⟩
theorem Dt.int_inv {i : Int} (h : Dt K G v (.int i)) : v = .int i := by cases h; rfl
theorem Dt.bool_inv {b : Bool} (h : Dt K G v (.bool b)) : v = .bl b := by cases h; rfl
theorem Dt.str_inv {x : Str} (h : Dt K G v (.str x)) : v = .str x := by cases h; rfl
theorem Dt.none_inv (h : Dt K G v .none) : v = .non := by cases h; rfl
theorem Dt.list_inv (h : Dt K G v (.list ds)) : ∃ a xs, v = .ref a ∧ G a = some (.lst xs) ∧ Da K G xs ds := by
  cases h with
  | lst h1 h2 h3 => exact ⟨_, _, rfl, h1, h2, h3⟩
theorem Dt.tuple_inv (h : Dt K G v (.tuple ds)) : ∃ a xs, v = .ref a ∧ SqT K G a xs ∧ Da K G xs ds := by
  cases h with
  | tup h1 h2 h3 => exact ⟨_, _, rfl, h1, h2, h3⟩
theorem scr_inj {ns ms : List Int} (h : scr ns = scr ms) : ns = ms := by
  have h1 := PyData.dict.inj h
  have h2 := congrArg (List.map fun (p : PyData × PyData) => match p.1 with | .int i => i | _ => 0) h1
  simpa [List.map_map, Function.comp_def] using h2
theorem Dt.scr_inv {ns : List Int} (h : Dt K G v (.dict (ns.map fun n => (.int n, .none)))) : ∃ a, v = .ref a ∧ SqL K G a (ns.map V.int) := by
  generalize e : (PyData.dict (ns.map fun n => (.int n, .none))) = d at h
  cases h with
  | scr h1 =>
    have := scr_inj e
    subst this
    exact ⟨_, rfl, h1⟩
  | _ => cases e
theorem Da.ints {ns : List Int} : ∀ {vs : List V}, Da K G vs (ns.map PyData.int) → vs = ns.map V.int := by
  induction ns with
  | nil => intro vs h; exact h.nil_inv
  | cons n ns ih =>
    intro vs h
    obtain ⟨u, us, rfl, h1, h2⟩ := Da.cons_inv h
    rw [h1.int_inv, ih h2] <;> rfl
theorem Da.strs {xs : List Str} : ∀ {vs : List V}, Da K G vs (xs.map PyData.str) → vs = xs.map V.str := by
  induction xs with
  | nil => intro vs h; exact h.nil_inv
  | cons n ns ih =>
    intro vs h
    obtain ⟨u, us, rfl, h1, h2⟩ := Da.cons_inv h
    rw [h1.str_inv, ih h2] <;> rfl
theorem Da.bools {xs : List Bool} : ∀ {vs : List V}, Da K G vs (xs.map PyData.bool) → vs = xs.map V.bl := by
  induction xs with
  | nil => intro vs h; exact h.nil_inv
  | cons n ns ih =>
    intro vs h
    obtain ⟨u, us, rfl, h1, h2⟩ := Da.cons_inv h
    rw [h1.bool_inv, ih h2] <;> rfl
theorem da_ints (ns : List Int) : Da K G (ns.map V.int) (ns.map PyData.int) := by
  induction ns with
  | nil => exact .nil
  | cons n ns ih => exact .cons (.int n) ih
theorem da_all {vs : List V} (h : ∀ v ∈ vs, v = .non) : Da K G vs (vs.map fun _ => .none) := by
  induction vs with
  | nil => exact .nil
  | cons n ns ih =>
    refine .cons ?_ (ih fun v hv => h v (List.mem_cons_of_mem _ hv))
    rw [h n (List.mem_cons_self ..)]
    exact .non
end
/-! ### how the heaps grow: G what is told, H what is tracked -/
structure Grow (G H G2 H2 : Hp) : Prop where
  g : Ex G G2
  h : Ex H H2
  s : Ex G2 H2
  n : ∀ b, G b = none → G2 b ≠ none → H b = none
section
variable {G H G1 H1 G2 H2 : Hp}
theorem Grow.refl (s : Ex G H) : Grow G H G H := ⟨Ex.refl _, Ex.refl _, s, fun b h1 h2 => absurd h1 h2⟩
theorem ex_none {A B : Hp} {b : Addr} (e : Ex A B) (h : B b = none) : A b = none := fresh_back e h
theorem Grow.trans (a : Grow G H G1 H1) (c : Grow G1 H1 G2 H2) : Grow G H G2 H2 := by
  refine ⟨a.g.trans c.g, a.h.trans c.h, c.s, fun b h1 h2 => ?_⟩
  by_cases q : G1 b = none
  · exact ex_none a.h (c.n b q h2)
  · exact a.n b h1 q
/-- a new object, known -/
theorem Grow.new {p : Addr} {o : HO} (s : Ex G H) (hp : H p = none) : Grow G H (upd G p o) (upd H p o) := by
  refine ⟨Ex.new (ex_none s hp), Ex.new hp, fun a u e => ?_, fun b h1 h2 => ?_⟩
  · by_cases q : a = p
    · subst q
      rw [upd_same] at e ⊢
      exact e
    · rw [upd_ne q] at e ⊢
      exact s a u e
  · by_cases q : b = p
    · rw [q]; exact hp
    · rw [upd_ne q] at h2
      exact absurd h1 h2
/-- a new object, not told -/
theorem Grow.hid {p : Addr} {o : HO} (s : Ex G H) (hp : H p = none) : Grow G H G (upd H p o) :=
  ⟨Ex.refl _, Ex.new hp, fun a u e => Ex.new hp a u (s a u e), fun b h1 h2 => absurd h1 h2⟩
/-- an object of H that was made since, told now -/
theorem Grow.tell {p : Addr} {o : HO} (a : Grow G H G1 H1) (hp : H p = none) (h1 : H1 p = some o) : Grow G H (upd G1 p o) H1 := by
  refine ⟨fun b u e => ?_, a.h, fun b u e => ?_, fun b e1 e2 => ?_⟩
  · by_cases q : b = p
    · subst q
      have := a.s.trans (Ex.refl _) b u (a.g b u e)
      rw [h1] at this
      rw [upd_same]
      exact this
    · rw [upd_ne q]
      exact a.g b u e
  · by_cases q : b = p
    · subst q
      rw [upd_same] at e
      rw [← e]
      exact h1
    · rw [upd_ne q] at e
      exact a.s b u e
  · by_cases q : b = p
    · rw [q]; exact hp
    · rw [upd_ne q] at e2
      exact a.n b e1 e2
end
/-! ### slots -/
inductive Sl where
  | emp
  | pur (d : PyData)
  | own (ds : List PyData)
def SlotOk (K : PySem.W.Frag) (He G H : Hp) (o : Option V) : Sl → Prop
  | .emp => True
  | .pur d => ∃ v, o = some v ∧ Dt K G v d
  | .own ds => ∃ p vs, o = some (.ref p) ∧ He p = none ∧ G p = none ∧ H p = some (.lst vs) ∧ Da K G vs ds
structure Sls (K : PySem.W.Frag) (He G H : Hp) (σ : L2.St) (es : List Sl) : Prop where
  len : σ.length = es.length
  ok : ∀ (i : Nat) o e, σ[i]? = some o → es[i]? = some e → SlotOk K He G H o e
  ne : ∀ (i j : Nat) p ds ds', i ≠ j → es[i]? = some (.own ds) → es[j]? = some (.own ds') → σ[i]? = some (some (.ref p)) → σ[j]? ≠ some (some (.ref p))
section
variable {K : PySem.W.Frag} {He G H G2 H2 : Hp} {σ : L2.St} {es es' : List Sl} {i j : Nat} {d : PyData} {ds : List PyData} {v : V}
theorem SlotOk.grow {o : Option V} {e : Sl} (g : Grow G H G2 H2) (h : SlotOk K He G H o e) : SlotOk K He G2 H2 o e := by
  cases e with
  | emp => trivial
  | pur d =>
    obtain ⟨v, e, t⟩ := h
    exact ⟨v, e, t.mono g.g⟩
  | own ds =>
    obtain ⟨p, vs, e, h0, h1, h2, t⟩ := h
    refine ⟨p, vs, e, h0, ?_, g.h _ _ h2, t.mono g.g⟩
    cases q : G2 p with
    | none => rfl
    | some u =>
      have := g.n p h1 (by rw [q]; simp)
      rw [h2] at this
      cases this
theorem Sls.grow (g : Grow G H G2 H2) (s : Sls K He G H σ es) : Sls K He G2 H2 σ es := ⟨s.len, fun i o e a b => (s.ok i o e a b).grow g, s.ne⟩
theorem Sls.at (s : Sls K He G H σ es) {e : Sl} (h : es[i]? = some e) : ∃ o, σ[i]? = some o ∧ SlotOk K He G H o e := by
  have hi : i < es.length := (List.getElem?_eq_some_iff.mp h).1
  have hi' : i < σ.length := by rw [s.len]; exact hi
  exact ⟨σ[i], List.getElem?_eq_getElem hi', s.ok i _ _ (List.getElem?_eq_getElem hi') h⟩
theorem Sls.pur (s : Sls K He G H σ es) (h : es[i]? = some (.pur d)) : ∃ v, σ[i]? = some (some v) ∧ Dt K G v d := by
  obtain ⟨o, e, v, rfl, t⟩ := s.at h
  exact ⟨v, e, t⟩
theorem Sls.own (s : Sls K He G H σ es) (h : es[i]? = some (.own ds)) : ∃ p vs, σ[i]? = some (some (.ref p)) ∧ He p = none ∧ G p = none ∧ H p = some (.lst vs) ∧ Da K G vs ds := by
  obtain ⟨o, e, p, vs, rfl, t⟩ := s.at h
  exact ⟨p, vs, e, t⟩
theorem get_set {α : Type} {l : List α} {i j : Nat} {x y : α} (h : (l.set i x)[j]? = some y) : (i = j ∧ y = x ∧ i < l.length) ∨ (i ≠ j ∧ l[j]? = some y) := by
  by_cases e : i = j
  · subst e
    by_cases hl : i < l.length
    · rw [List.getElem?_set_self hl] at h
      cases h
      exact .inl ⟨rfl, rfl, hl⟩
    · rw [List.getElem?_eq_none (by simpa using hl)] at h
      cases h
  · rw [List.getElem?_set_ne e] at h
    exact .inr ⟨e, h⟩
theorem Sls.set (s : Sls K He G H σ es) (h : Dt K G v d) : Sls K He G H (σ.set i (some v)) (es.set i (.pur d)) := by
  refine ⟨by simp [s.len], fun j o e a b => ?_, fun j k p ds ds' hjk a b c => ?_⟩
  · rcases get_set a with ⟨rfl, rfl, _⟩ | ⟨hne, a'⟩
    · rcases get_set b with ⟨_, rfl, _⟩ | ⟨hne, _⟩
      · exact ⟨v, rfl, h⟩
      · exact absurd rfl hne
    · rcases get_set b with ⟨e, _, _⟩ | ⟨_, b'⟩
      · exact absurd e hne
      · exact s.ok j o e a' b'
  · rcases get_set a with ⟨_, e, _⟩ | ⟨h1, a'⟩
    · cases e
    rcases get_set b with ⟨_, e, _⟩ | ⟨h2, b'⟩
    · cases e
    rw [List.getElem?_set_ne h1] at c
    rw [List.getElem?_set_ne h2]
    exact s.ne j k p ds ds' hjk a' b' c
theorem Sls.setOwn {p : Addr} {vs : List V} (s : Sls K He G H σ es) (h0 : He p = none) (h1 : G p = none) (h2 : H p = some (.lst vs)) (h3 : ∀ (j : Nat) ds', es[j]? = some (.own ds') → σ[j]? ≠ some (some (.ref p))) (h : Da K G vs ds) : Sls K He G H (σ.set i (some (.ref p))) (es.set i (.own ds)) := by
  refine ⟨by simp [s.len], fun j o e a b => ?_, fun j k q ds1 ds2 hjk a b c => ?_⟩
  · rcases get_set a with ⟨rfl, rfl, _⟩ | ⟨hne, a'⟩
    · rcases get_set b with ⟨_, rfl, _⟩ | ⟨hne, _⟩
      · exact ⟨p, vs, rfl, h0, h1, h2, h⟩
      · exact absurd rfl hne
    · rcases get_set b with ⟨e, _, _⟩ | ⟨_, b'⟩
      · exact absurd e hne
      · exact s.ok j o e a' b'
  · rcases get_set c with ⟨rfl, e, _⟩ | ⟨hne, c'⟩
    · have ep : q = p := by
        have := Option.some.inj e
        exact V.ref.inj this
      subst ep
      rcases get_set b with ⟨e, _, _⟩ | ⟨h4, b'⟩
      · exact absurd e hjk
      · rw [List.getElem?_set_ne h4]
        exact h3 k _ b'
    · rcases get_set a with ⟨e, _, _⟩ | ⟨_, a'⟩
      · exact absurd e hne
      intro c2
      rcases get_set c2 with ⟨rfl, e, _⟩ | ⟨h5, c3⟩
      · have ep : q = p := V.ref.inj (Option.some.inj e)
        subst ep
        exact h3 j _ a' c'
      · rcases get_set b with ⟨e, _, _⟩ | ⟨_, b'⟩
        · exact absurd e h5
        exact s.ne j k q ds1 ds2 hjk a' b' c' c3
/-- forgetting -/
def Wk (es es' : List Sl) : Prop := es.length = es'.length ∧ ∀ (i : Nat) e, es'[i]? = some e → e = .emp ∨ es[i]? = some e
theorem Wk.refl (es : List Sl) : Wk es es := ⟨rfl, fun _ _ h => .inr h⟩
theorem Sls.weak (s : Sls K He G H σ es) (w : Wk es es') : Sls K He G H σ es' := by
  refine ⟨s.len.trans w.1, fun i o e a b => ?_, fun i j p ds ds' hij a b c => ?_⟩
  · rcases w.2 i e b with rfl | b'
    · trivial
    · exact s.ok i o e a b'
  · rcases w.2 i _ a with z | a'
    · cases z
    rcases w.2 j _ b with z | b'
    · cases z
    exact s.ne i j p ds ds' hij a' b' c
theorem Wk.trans {es'' : List Sl} (a : Wk es es') (b : Wk es' es'') : Wk es es'' := by
  refine ⟨a.1.trans b.1, fun i e h => ?_⟩
  rcases b.2 i e h with z | z
  · exact .inl z
  · exact a.2 i e z
/-- an own list is told: it will not change any more -/
theorem Sls.freeze (s : Sls K He G H σ es) (ex : Ex G H) (h : es[i]? = some (.own ds)) : ∃ p vs, He p = none ∧ G p = none ∧ H p = some (.lst vs) ∧ Sls K He (upd G p (.lst vs)) H σ (es.set i (.pur (.list ds))) := by
  obtain ⟨p, vs, e1, e2, e3, e4, e5⟩ := s.own h
  refine ⟨p, vs, e2, e3, e4, by simp [s.len], fun j o e a b => ?_, fun j k q ds1 ds2 hjk a b c => ?_⟩
  · have exG : Ex G (upd G p (.lst vs)) := Ex.new e3
    rcases get_set b with ⟨rfl, rfl, _⟩ | ⟨hne, b'⟩
    · rw [e1] at a
      cases a
      exact ⟨_, rfl, .lst upd_same e5.1 (e5.mono exG).2⟩
    · have q := s.ok j o e a b'
      cases e with
      | emp => trivial
      | pur d =>
        obtain ⟨v, e, t⟩ := q
        exact ⟨v, e, t.mono exG⟩
      | own ds1 =>
        obtain ⟨p2, vs2, e, f0, f1, f2, t⟩ := q
        refine ⟨p2, vs2, e, f0, ?_, f2, t.mono exG⟩
        rw [upd_ne]
        · exact f1
        · intro z
          subst z
          subst e
          exact s.ne i j p2 ds ds1 hne h b' e1 a
  · rcases get_set a with ⟨_, e, _⟩ | ⟨_, a'⟩
    · cases e
    rcases get_set b with ⟨_, e, _⟩ | ⟨_, b'⟩
    · cases e
    exact s.ne j k q ds1 ds2 hjk a' b' c
/-- an own list is changed -/
theorem Sls.write {p : Addr} {vs : List V} (s : Sls K He G H σ es) (h : es[i]? = some (.own ds)) (e1 : σ[i]? = some (some (.ref p))) {ds' : List PyData} (h2 : Da K G vs ds') : Sls K He G (upd H p (.lst vs)) σ (es.set i (.own ds')) := by
  obtain ⟨p', vs', e1', e2, e3, e4, e5⟩ := s.own h
  have ep : p' = p := by
    rw [e1] at e1'
    exact (V.ref.inj (Option.some.inj (Option.some.inj e1'))).symm
  subst ep
  refine ⟨by simp [s.len], fun j o e a b => ?_, fun j k q ds1 ds2 hjk a b c => ?_⟩
  · rcases get_set b with ⟨rfl, rfl, _⟩ | ⟨hne, b'⟩
    · rw [e1] at a
      cases a
      exact ⟨p', vs, rfl, e2, e3, upd_same, h2⟩
    · have q := s.ok j o e a b'
      cases e with
      | emp => trivial
      | pur d => exact q
      | own ds1 =>
        obtain ⟨p2, vs2, e, f0, f1, f2, t⟩ := q
        refine ⟨p2, vs2, e, f0, f1, ?_, t⟩
        rw [upd_ne]
        · exact f2
        · intro z
          subst z
          subst e
          exact s.ne i j p2 ds ds1 hne h b' e1 a
  · have own_of : ∀ {m : Nat} {x : List PyData}, (es.set i (.own ds'))[m]? = some (.own x) → ∃ y, es[m]? = some (.own y) := fun {m x} q => by
      rcases get_set q with ⟨rfl, _, _⟩ | ⟨_, q'⟩
      · exact ⟨ds, h⟩
      · exact ⟨x, q'⟩
    obtain ⟨y1, a'⟩ := own_of a
    obtain ⟨y2, b'⟩ := own_of b
    exact s.ne j k q y1 y2 hjk a' b' c
end
end K9
namespace K9
open PySem PySem.Spec PyProof.Rows L2 Evl
/-! ### the readings by the model itself -/
structure tE (X : Cx) (e : Expr) (σ : L2.St) (H : Hp) (Q : VK) : Prop where
  go : ∀ pins s, Inv X pins σ H s → wpAny (model X.prog X.w) X.A (eval e X.env) (EP X pins σ Q) X.xe s
structure tT (X : Cx) (e : Expr) (σ : L2.St) (H : Hp) (Q : Bool → Hp → Prop) : Prop where
  go : ∀ pins s, Inv X pins σ H s → wpAny (model X.prog X.w) X.A (isTrue e X.env (eval e X.env)) (TP X pins σ Q) X.xe s
structure tW (X : Cx) (e : Expr) (σ : L2.St) (H : Hp) (Q : Bool → Hp → Prop) : Prop where
  go : ∀ whole pins s, Inv X pins σ H s → wpAny (model X.prog X.w) X.A (isTrue e X.env whole) (TP X pins σ Q) X.xe s
structure tA (X : Cx) (es : List Expr) (σ : L2.St) (H : Hp) (Q : List V → Hp → Prop) : Prop where
  go : ∀ pos pins s, Inv X pins σ H s → wpAny (model X.prog X.w) X.A (spliced (backTo pos (starEach es X.env))) (AP X pins σ Q) X.xe s
section
variable {X : Cx} {e : Expr} {es : List Expr}
theorem pE : PE X e (tE X e) := ⟨fun pins s _ _ _ I h => h.go pins s I⟩
theorem pT : PT X e (tT X e) := ⟨fun pins s _ _ _ I h => h.go pins s I⟩
theorem pW : PW X e (tW X e) := ⟨fun w pins s _ _ _ I h => h.go w pins s I⟩
theorem pA : PA X es (tA X es) := ⟨fun pos pins s _ _ _ I h => h.go pos pins s I⟩
end
/-! ### what an expression gives -/
abbrev Od := V → Hp → Hp → Prop
abbrev Rd3 := Hp → V → Hp → Hp → Prop
def Mono (O : Od) : Prop := ∀ v G H G2 H2, Grow G H G2 H2 → O v G H → O v G2 H2
def Anti (R : Rd3) : Prop := ∀ H H1 v G2 H2, Ex H H1 → R H1 v G2 H2 → R H v G2 H2
def dat (K : PySem.W.Frag) (d : PyData) : Od := fun v G _ => Dt K G v d
def lsv (K : PySem.W.Frag) (ds : List PyData) : Od := fun v G H => ∃ p vs, v = .ref p ∧ H p = some (.lst vs) ∧ Da K G vs ds
def nwl (K : PySem.W.Frag) (ds : List PyData) : Rd3 := fun H0 v G H => ∃ p vs, v = .ref p ∧ H0 p = none ∧ G p = none ∧ H p = some (.lst vs) ∧ Da K G vs ds
section
variable {K : PySem.W.Frag} {d : PyData} {ds : List PyData}
theorem mono_dat : Mono (dat K d) := fun _ _ _ _ _ g h => Dt.mono g.g h
theorem mono_lsv : Mono (lsv K ds) := fun _ _ _ _ _ g ⟨p, vs, e, h, t⟩ => ⟨p, vs, e, g.h _ _ h, t.mono g.g⟩
theorem anti_c {O : Od} : Anti (fun _ => O) := fun _ _ _ _ _ _ h => h
theorem anti_nwl : Anti (nwl K ds) := fun _ _ _ _ _ e ⟨p, vs, e1, h, t⟩ => ⟨p, vs, e1, ex_none e h, t⟩
end
def EvR (X : Cx) (es : List Sl) (e : Expr) (R : Rd3) : Prop :=
  ∀ He σ G H (Q : VK), Sls X.K He G H σ es → Ex G H → (∀ v G2 H2, Grow G H G2 H2 → R H v G2 H2 → Q v H2) → tE X e σ H Q
abbrev EvO (X : Cx) (es : List Sl) (e : Expr) (O : Od) : Prop := EvR X es e fun _ => O
abbrev Ev (X : Cx) (es : List Sl) (e : Expr) (d : PyData) : Prop := EvO X es e (dat X.K d)
abbrev Lv (X : Cx) (es : List Sl) (e : Expr) (ds : List PyData) : Prop := EvO X es e (lsv X.K ds)
abbrev Nv (X : Cx) (es : List Sl) (e : Expr) (ds : List PyData) : Prop := EvR X es e (nwl X.K ds)
def Tv (X : Cx) (es : List Sl) (e : Expr) (b : Bool) : Prop :=
  ∀ He σ G H (Q : Bool → Hp → Prop), Sls X.K He G H σ es → Ex G H → (∀ G2 H2, Grow G H G2 H2 → Q b H2) → tT X e σ H Q
def Wv (X : Cx) (es : List Sl) (e : Expr) (b : Bool) : Prop :=
  ∀ He σ G H (Q : Bool → Hp → Prop), Sls X.K He G H σ es → Ex G H → (∀ G2 H2, Grow G H G2 H2 → Q b H2) → tW X e σ H Q
def Av (X : Cx) (es : List Sl) (as : List Expr) (ds : List PyData) : Prop :=
  ∀ He σ G H (Q : List V → Hp → Prop), Sls X.K He G H σ es → Ex G H → (∀ vs G2 H2, Grow G H G2 H2 → Da X.K G2 vs ds → Q vs H2) → tA X as σ H Q
section
variable {X : Cx} {es : List Sl} {e a b c : Expr} {pos p p2 : Pos} {d d1 d2 d3 : PyData} {ds xs ys : List PyData} {O O1 O2 O3 : Od} {R : Rd3} {as : List Expr} {i : Nat}
theorem Ev.to (h : Ev X es e d1) (q : d1 = d2) : Ev X es e d2 := q ▸ h
theorem Nv.to (h : Nv X es e xs) (q : xs = ys) : Nv X es e ys := q ▸ h
theorem Lv.to (h : Lv X es e xs) (q : xs = ys) : Lv X es e ys := q ▸ h
theorem Tv.to {b1 b2 : Bool} (h : Tv X es e b1) (q : b1 = b2) : Tv X es e b2 := q ▸ h
theorem Nv.ev (h : Nv X es e ds) : Ev X es e (.list ds) := fun He σ G H Q S E k => h He σ G H Q S E fun v G2 H2 g ⟨p, vs, e1, h0, h1, h2, t⟩ => by
  subst e1
  exact k _ _ _ (g.tell h0 h2) (.lst upd_same t.1 (t.mono (Ex.new h1)).2)
theorem Nv.lv (h : Nv X es e ds) : Lv X es e ds := fun He σ G H Q S E k => h He σ G H Q S E fun v G2 H2 g ⟨p, vs, e1, h0, h1, h2, t⟩ => k v G2 H2 g ⟨p, vs, e1, h2, t⟩
theorem Ev.lv (h : Ev X es e (.list ds)) : Lv X es e ds := fun He σ G H Q S E k => h He σ G H Q S E fun v G2 H2 g t => by
  obtain ⟨a, xs, e1, h1, h2⟩ := Dt.list_inv t
  exact k v G2 H2 g ⟨a, xs, e1, g.s _ _ h1, h2⟩
theorem Wv.tv {x : Bool} (h : Wv X es e x) : Tv X es e x := fun He σ G H Q S E k => ⟨fun pins s I => (h He σ G H Q S E k).go _ pins s I⟩
/-- from a reading of the hand layer -/
theorem ev_of {te : TE} (h : PE X e te) (r : ∀ He σ G H (Q : VK), Sls X.K He G H σ es → Ex G H → (∀ v G2 H2, Grow G H G2 H2 → R H v G2 H2 → Q v H2) → te σ H Q) : EvR X es e R :=
  fun He σ G H Q S E k => ⟨fun pins s I => h.run pins s σ H Q I (r He σ G H Q S E k)⟩
theorem tv_of {tt : TT} {x : Bool} (h : PT X e tt) (r : ∀ He σ G H (Q : Bool → Hp → Prop), Sls X.K He G H σ es → Ex G H → (∀ G2 H2, Grow G H G2 H2 → Q x H2) → tt σ H Q) : Tv X es e x :=
  fun He σ G H Q S E k => ⟨fun pins s I => h.run pins s σ H Q I (r He σ G H Q S E k)⟩
theorem wv_of {tt : TT} {x : Bool} (h : PW X e tt) (r : ∀ He σ G H (Q : Bool → Hp → Prop), Sls X.K He G H σ es → Ex G H → (∀ G2 H2, Grow G H G2 H2 → Q x H2) → tt σ H Q) : Wv X es e x :=
  fun He σ G H Q S E k => ⟨fun w pins s I => h.run w pins s σ H Q I (r He σ G H Q S E k)⟩
theorem av_of {ta : TA} (h : PA X as ta) (r : ∀ He σ G H (Q : List V → Hp → Prop), Sls X.K He G H σ es → Ex G H → (∀ vs G2 H2, Grow G H G2 H2 → Da X.K G2 vs ds → Q vs H2) → ta σ H Q) : Av X es as ds :=
  fun He σ G H Q S E k => ⟨fun pos pins s I => h.run pos pins s σ H Q I (r He σ G H Q S E k)⟩
/-! ### names, constants -/
theorem v_var (i : Nat) {x : Str} (h : es[i]? = some (.pur d)) (hN : X.N[i]? = some x := by rfl) (hv : Vis X.env.scope x := by first | exact Or.inl rfl | exact Or.inr (Or.inl rfl) | exact Or.inr (Or.inr rfl)) (hd : (x == ("__debug__" : Str)) = false := by decide)
    (hcd : (x == ("__classdict__" : Str)) = false := by decide) : Ev X es (.Name x pos) d :=
  ev_of (pe_var hN hv hd hcd) fun He σ G H Q S E k => by
    obtain ⟨v, e, t⟩ := S.pur h
    exact ⟨v, e, k v G H (Grow.refl E) t⟩
theorem l_own (i : Nat) {x : Str} (h : es[i]? = some (.own ds)) (hN : X.N[i]? = some x := by rfl) (hv : Vis X.env.scope x := by first | exact Or.inl rfl | exact Or.inr (Or.inl rfl) | exact Or.inr (Or.inr rfl)) (hd : (x == ("__debug__" : Str)) = false := by decide)
    (hcd : (x == ("__classdict__" : Str)) = false := by decide) : Lv X es (.Name x pos) ds :=
  ev_of (pe_var hN hv hd hcd) fun He σ G H Q S E k => by
    obtain ⟨p, vs, e, h0, h1, h2, t⟩ := S.own h
    exact ⟨_, e, k _ G H (Grow.refl E) ⟨p, vs, rfl, h2, t⟩⟩
theorem v_int {n : Int} {j : Nat} : Ev X es (.Constant (.int n) j pos) (.int n) := ev_of pe_int fun _ _ G H _ _ E k => k _ G H (Grow.refl E) (.int n)
theorem v_bl {n : Bool} {j : Nat} : Ev X es (.Constant (.bool n) j pos) (.bool n) := ev_of pe_bl fun _ _ G H _ _ E k => k _ G H (Grow.refl E) (.bl n)
theorem v_non {j : Nat} : Ev X es (.Constant .none j pos) .none := ev_of pe_non fun _ _ G H _ _ E k => k _ G H (Grow.refl E) .non
theorem v_str {z : Str} {j : Nat} : Ev X es (.Constant (.str z) j pos) (.str z) := ev_of pe_str fun _ _ G H _ _ E k => k _ G H (Grow.refl E) (.str z)
theorem v_glob {x : Str} {v : V} {u : Value} (hm : X.mg x = some u) (r : RelV v u) (t : ∀ G, Dt X.K G v d) (hg : Gl X x := by rfl) (hd : (x == ("__debug__" : Str)) = false := by decide) : Ev X es (.Name x pos) d :=
  ev_of (pe_glob hg hm r hd) fun _ _ G H _ _ E k => k _ G H (Grow.refl E) (t G)
theorem v_gint {x : Str} {n : Int} (hm : ∃ t, X.mg x = some (.int n t)) (hg : Gl X x := by rfl) (hd : (x == ("__debug__" : Str)) = false := by decide) : Ev X es (.Name x pos) (.int n) := by
  obtain ⟨t, hm⟩ := hm
  exact v_glob (v := .int n) hm ⟨t, rfl⟩ (fun _ => .int n) hg hd
theorem v_gstr {x : Str} {z : Str} (hm : ∃ t, X.mg x = some (.str z t)) (hg : Gl X x := by rfl) (hd : (x == ("__debug__" : Str)) = false := by decide) : Ev X es (.Name x pos) (.str z) := by
  obtain ⟨t, hm⟩ := hm
  exact v_glob (v := .str z) hm ⟨t, rfl⟩ (fun _ => .str z) hg hd
/-! ### operators -/
theorem o_bin {op : Operator} {r : R2} (ho : OpR X (binaryOp op) r) (m1 : Mono O1) (an : Anti R) (ha : EvO X es a O1) (hb : EvO X es b O2)
    (hr : ∀ G H v u (Q : VK), Ex G H → O1 v G H → O2 u G H → (∀ w G2 H2, Grow G H G2 H2 → R H w G2 H2 → Q w H2) → r v u H Q) : EvR X es (.BinOp a op b pos) R :=
  ev_of (pe_op ho pE pE) fun He σ G H Q S E k => ha He σ G H _ S E fun v G1 H1 g1 o1 => hb He σ G1 H1 _ (S.grow g1) g1.s fun u G2 H2 g2 o2 =>
    hr G2 H2 v u Q g2.s (m1 _ _ _ _ _ g2 o1) o2 fun w G3 H3 g3 o3 => k w G3 H3 ((g1.trans g2).trans g3) (an _ _ _ _ _ (g1.h.trans g2.h) o3)
theorem o_cmp {op : CmpOp} {r : R2} (ho : OpR X (compareOp op) r) (m1 : Mono O1) (ha : EvO X es a O1) (hb : EvO X es b O2) (hm : behindInMarks op b = false)
    (hr : ∀ G H v u (Q : VK), Ex G H → O1 v G H → O2 u G H → (∀ w G2 H2, Grow G H G2 H2 → O3 w G2 H2 → Q w H2) → r v u H Q) : EvO X es (.Compare a [op] [b] pos) O3 :=
  ev_of (pe_cmpR ho pE pE hm) fun He σ G H Q S E k => ha He σ G H _ S E fun v G1 H1 g1 o1 => hb He σ G1 H1 _ (S.grow g1) g1.s fun u G2 H2 g2 o2 =>
    hr G2 H2 v u Q g2.s (m1 _ _ _ _ _ g2 o1) o2 fun w G3 H3 g3 o3 => k w G3 H3 ((g1.trans g2).trans g3) o3
theorem ot_cmp {op : CmpOp} {r : R2} {x : Bool} (ho : OpR X (compareOp op) r) (m1 : Mono O1) (ha : EvO X es a O1) (hb : EvO X es b O2) (hm : behindInMarks op b = false)
    (hr : ∀ G H v u (Q : VK), Ex G H → O1 v G H → O2 u G H → Q (.bl x) H → r v u H Q) : Tv X es (.Compare a [op] [b] pos) x :=
  tv_of (pt_cmpR ho pE pE hm) fun He σ G H Q S E k => ha He σ G H _ S E fun v G1 H1 g1 o1 => hb He σ G1 H1 _ (S.grow g1) g1.s fun u G2 H2 g2 o2 =>
    hr G2 H2 v u _ g2.s (m1 _ _ _ _ _ g2 o1) o2 ⟨x, rfl, k G2 H2 (g1.trans g2)⟩
section
variable {m n : Int}
theorem r_I0 {g : Int → Int → Int} {G H : Hp} {v u : V} {Q : VK} (E : Ex G H) (h1 : dat X.K (.int m) v G H) (h2 : dat X.K (.int n) u G H) (k : ∀ w G2 H2, Grow G H G2 H2 → dat X.K (.int (g m n)) w G2 H2 → Q w H2) : rI0 (fun i j => .int (g i j)) v u H Q := by
  rw [Dt.int_inv h1, Dt.int_inv h2]
  exact ⟨m, n, rfl, rfl, k _ G H (Grow.refl E) (.int _)⟩
theorem r_I {C : Int → Int → Prop} {g : Int → Int → Int} (hc : C m n) {G H : Hp} {v u : V} {Q : VK} (E : Ex G H) (h1 : dat X.K (.int m) v G H) (h2 : dat X.K (.int n) u G H) (k : ∀ w G2 H2, Grow G H G2 H2 → dat X.K (.int (g m n)) w G2 H2 → Q w H2) : rI C (fun i j => .int (g i j)) v u H Q := by
  rw [Dt.int_inv h1, Dt.int_inv h2]
  exact ⟨m, n, rfl, rfl, hc, k _ G H (Grow.refl E) (.int _)⟩
theorem v_add (ha : Ev X es a (.int m)) (hb : Ev X es b (.int n)) : Ev X es (.BinOp a .Add b pos) (.int (m + n)) := o_bin op_add mono_dat anti_c ha hb fun _ _ _ _ _ E h1 h2 k => r_I0 (g := fun i j => i + j) E h1 h2 k
theorem v_sub (ha : Ev X es a (.int m)) (hb : Ev X es b (.int n)) : Ev X es (.BinOp a .Sub b pos) (.int (m - n)) := o_bin op_sub mono_dat anti_c ha hb fun _ _ _ _ _ E h1 h2 k => r_I0 (g := fun i j => i - j) E h1 h2 k
theorem v_mul (hc : CMul m n) (ha : Ev X es a (.int m)) (hb : Ev X es b (.int n)) : Ev X es (.BinOp a .Mult b pos) (.int (m * n)) := o_bin op_mul mono_dat anti_c ha hb fun _ _ _ _ _ E h1 h2 k => r_I (g := fun i j => i * j) hc E h1 h2 k
theorem v_div (hc : CDiv m n) (ha : Ev X es a (.int m)) (hb : Ev X es b (.int n)) : Ev X es (.BinOp a .FloorDiv b pos) (.int (m / n)) := o_bin op_fdiv mono_dat anti_c ha hb fun _ _ _ _ _ E h1 h2 k => r_I (C := CDiv) (g := fun i j => i / j) hc E h1 h2 k
theorem v_mod (hc : 0 < n) (ha : Ev X es a (.int m)) (hb : Ev X es b (.int n)) : Ev X es (.BinOp a .Mod b pos) (.int (m % n)) := o_bin op_mod mono_dat anti_c ha hb fun _ _ _ _ _ E h1 h2 k => r_I (C := fun _ j => 0 < j) (g := fun i j => i % j) hc E h1 h2 k
theorem v_pow (hc : CPow m n) (ha : Ev X es a (.int m)) (hb : Ev X es b (.int n)) : Ev X es (.BinOp a .Pow b pos) (.int (m ^ n.toNat)) := o_bin op_pow mono_dat anti_c ha hb fun _ _ _ _ _ E h1 h2 k => r_I (C := CPow) (g := fun i j => i ^ j.toNat) hc E h1 h2 k
theorem v_shr (hc : 0 ≤ n) (ha : Ev X es a (.int m)) (hb : Ev X es b (.int n)) : Ev X es (.BinOp a .RShift b pos) (.int (m / 2 ^ n.toNat)) := o_bin op_shr mono_dat anti_c ha hb fun _ _ _ _ _ E h1 h2 k => r_I (C := fun _ j => 0 ≤ j) (g := fun i j => i / 2 ^ j.toNat) hc E h1 h2 k
theorem v_band (ha : Ev X es a (.int m)) (hb : Ev X es b (.int n)) : Ev X es (.BinOp a .BitAnd b pos) (.int (Builtin.bitAnd m n)) := o_bin op_and mono_dat anti_c ha hb fun _ _ _ _ _ E h1 h2 k => r_I0 (g := fun i j => Builtin.bitAnd i j) E h1 h2 k
theorem v_bxor (ha : Ev X es a (.int m)) (hb : Ev X es b (.int n)) : Ev X es (.BinOp a .BitXor b pos) (.int (Builtin.bitXor m n)) := o_bin op_xor mono_dat anti_c ha hb fun _ _ _ _ _ E h1 h2 k => r_I0 (g := fun i j => Builtin.bitXor i j) E h1 h2 k
theorem v_neg (ha : Ev X es a (.int m)) : Ev X es (.UnaryOp .USub a pos) (.int (-m)) := ev_of (pe_un un_neg pE) fun He σ G H Q S E k => ha He σ G H _ S E fun v G1 H1 g1 o1 => by
  rw [Dt.int_inv o1]
  exact ⟨m, rfl, k _ G1 H1 g1 (.int _)⟩
theorem r_B0 {g : Int → Int → Bool} {G H : Hp} {v u : V} {Q : VK} (h1 : dat X.K (.int m) v G H) (h2 : dat X.K (.int n) u G H) (k : Q (.bl (g m n)) H) : rI0 (fun i j => .bl (g i j)) v u H Q := by
  rw [Dt.int_inv h1, Dt.int_inv h2]
  exact ⟨m, n, rfl, rfl, k⟩
theorem t_lt (ha : Ev X es a (.int m)) (hb : Ev X es b (.int n)) : Tv X es (.Compare a [.Lt] [b] pos) (decide (m < n)) := ot_cmp op_lt mono_dat ha hb (nomark _) fun _ _ _ _ _ _ h1 h2 k => r_B0 (g := fun i j => decide (i < j)) h1 h2 k
theorem t_le (ha : Ev X es a (.int m)) (hb : Ev X es b (.int n)) : Tv X es (.Compare a [.LtE] [b] pos) (decide (m ≤ n)) := ot_cmp op_le mono_dat ha hb (nomark _) fun _ _ _ _ _ _ h1 h2 k => r_B0 (g := fun i j => decide (i ≤ j)) h1 h2 k
theorem t_gt (ha : Ev X es a (.int m)) (hb : Ev X es b (.int n)) : Tv X es (.Compare a [.Gt] [b] pos) (decide (n < m)) := ot_cmp op_gt mono_dat ha hb (nomark _) fun _ _ _ _ _ _ h1 h2 k => r_B0 (g := fun i j => decide (j < i)) h1 h2 k
theorem t_ge (ha : Ev X es a (.int m)) (hb : Ev X es b (.int n)) : Tv X es (.Compare a [.GtE] [b] pos) (decide (n ≤ m)) := ot_cmp op_ge mono_dat ha hb (nomark _) fun _ _ _ _ _ _ h1 h2 k => r_B0 (g := fun i j => decide (j ≤ i)) h1 h2 k
theorem r_eq {G H : Hp} {v u : V} {Q : VK} (h1 : dat X.K (.int m) v G H) (h2 : dat X.K (.int n) u G H) (k : Q (.bl (decide (m = n))) H) : rEq v u H Q := by
  rw [Dt.int_inv h1, Dt.int_inv h2]
  refine ⟨rfl, ?_⟩
  have e : decide (V.int m = V.int n) = decide (m = n) := by
    by_cases q : m = n
    · subst q
      rw [decide_eq_true rfl, decide_eq_true rfl]
    · rw [decide_eq_false q, decide_eq_false fun z => q (V.int.inj z)]
  rw [e]
  exact k
theorem r_ne {G H : Hp} {v u : V} {Q : VK} (h1 : dat X.K (.int m) v G H) (h2 : dat X.K (.int n) u G H) (k : Q (.bl (!decide (m = n))) H) : rNe v u H Q := by
  rw [Dt.int_inv h1, Dt.int_inv h2]
  refine ⟨rfl, ?_⟩
  have e : decide (V.int m = V.int n) = decide (m = n) := by
    by_cases q : m = n
    · subst q
      rw [decide_eq_true rfl, decide_eq_true rfl]
    · rw [decide_eq_false q, decide_eq_false fun z => q (V.int.inj z)]
  rw [e]
  exact k
theorem t_eq (ha : Ev X es a (.int m)) (hb : Ev X es b (.int n)) : Tv X es (.Compare a [.Eq] [b] pos) (decide (m = n)) := ot_cmp op_eq mono_dat ha hb (nomark _) fun _ _ _ _ _ _ h1 h2 k => r_eq h1 h2 k
theorem t_ne (ha : Ev X es a (.int m)) (hb : Ev X es b (.int n)) : Tv X es (.Compare a [.NotEq] [b] pos) (!decide (m = n)) := ot_cmp op_ne mono_dat ha hb (nomark _) fun _ _ _ _ _ _ h1 h2 k => r_ne h1 h2 k
theorem v_le (ha : Ev X es a (.int m)) (hb : Ev X es b (.int n)) : Ev X es (.Compare a [.LtE] [b] pos) (.bool (decide (m ≤ n))) := o_cmp op_le mono_dat ha hb (nomark _) fun _ _ _ _ _ E h1 h2 k => r_B0 (g := fun i j => decide (i ≤ j)) h1 h2 (k _ _ _ (Grow.refl E) (.bl _))
theorem v_lt (ha : Ev X es a (.int m)) (hb : Ev X es b (.int n)) : Ev X es (.Compare a [.Lt] [b] pos) (.bool (decide (m < n))) := o_cmp op_lt mono_dat ha hb (nomark _) fun _ _ _ _ _ E h1 h2 k => r_B0 (g := fun i j => decide (i < j)) h1 h2 (k _ _ _ (Grow.refl E) (.bl _))
/-- texts, different or not -/
theorem t_neS {x y : Str} (ha : Ev X es a (.str x)) (hb : Ev X es b (.str y)) : Tv X es (.Compare a [.NotEq] [b] pos) (!decide (x = y)) := ot_cmp op_ne mono_dat ha hb (nomark _) fun _ _ _ _ _ _ h1 h2 k => by
  rw [Dt.str_inv h1, Dt.str_inv h2]
  refine ⟨rfl, ?_⟩
  have e : decide (V.str x = V.str y) = decide (x = y) := by
    by_cases q : x = y
    · subst q
      rw [decide_eq_true rfl, decide_eq_true rfl]
    · rw [decide_eq_false q, decide_eq_false fun z => q (V.str.inj z)]
  rw [e]
  exact k
/-- a ≤ b ≤ c -/
theorem t_lele {o : Int} (ha : Ev X es a (.int m)) (hb : Ev X es b (.int n)) (hc : Ev X es c (.int o)) (hm : lastMarks [.LtE, .LtE] [b, c] = false := by with_unfolding_all rfl) : Tv X es (.Compare a [.LtE, .LtE] [b, c] pos) (decide (m ≤ n) && decide (n ≤ o)) :=
  tv_of (pt_chain op_le op_le pE pE pE hm) fun He σ G H Q S E k => ha He σ G H _ S E fun v G1 H1 g1 o1 => hb He σ G1 H1 _ (S.grow g1) g1.s fun u G2 H2 g2 o2 => by
    have g12 := g1.trans g2
    refine r_B0 (X := X) (g := fun i j => decide (i ≤ j)) (mono_dat _ _ _ _ _ g2 o1) o2 ⟨_, rfl, ?_⟩
    by_cases q : m ≤ n
    · rw [decide_eq_true q] at k ⊢
      rw [if_pos rfl]
      refine hc He σ G2 H2 _ (S.grow g12) g2.s fun w G3 H3 g3 o3 => ?_
      exact r_B0 (X := X) (g := fun i j => decide (i ≤ j)) (mono_dat _ _ _ _ _ g3 o2) o3 ⟨_, rfl, k G3 H3 (g12.trans g3)⟩
    · rw [decide_eq_false q] at k ⊢
      rw [if_neg Bool.false_ne_true]
      exact ⟨_, rfl, k G2 H2 g12⟩
end
/-- None or not -/
theorem t_notN {x : Bool} {j : Nat} {pos' : Pos} (ha : Ev X es a d) (hx : (match d with | .none => false | _ => true) = x) : Tv X es (.Compare a [.IsNot] [.Constant .none j pos'] pos) x :=
  ot_cmp op_notN mono_dat ha v_non (nomark _) fun G H v u Q E h1 h2 k => by
    rw [Dt.none_inv h2]
    refine ⟨rfl, ?_⟩
    have e : (!decide (v = V.non)) = x := by
      rw [← hx]
      cases h1 <;> rfl
    rw [e]
    exact k
theorem t_isN {x : Bool} {j : Nat} {pos' : Pos} (ha : Ev X es a d) (hx : (match d with | .none => true | _ => false) = x) : Tv X es (.Compare a [.Is] [.Constant .none j pos'] pos) x :=
  ot_cmp op_isN mono_dat ha v_non (nomark _) fun G H v u Q E h1 h2 k => by
    rw [Dt.none_inv h2]
    refine ⟨rfl, ?_⟩
    have e : decide (v = V.non) = x := by
      rw [← hx]
      cases h1 <;> rfl
    rw [e]
    exact k
/-! ### and, or, not -/
theorem t_val {x : Bool} (h : Ev X es e (.bool x)) (he : ∀ whole, isTrue e X.env whole = (do let v ← whole; standAt e.pos; holding [v] (truthy v)) := by intro _; rfl) : Tv X es e x :=
  tv_of (pt_val pE he) fun He σ G H Q S E k => h He σ G H _ S E fun v G1 H1 g1 o1 => ⟨x, Dt.bool_inv o1, k G1 H1 g1⟩
variable {x y : Bool} {rest : List Expr}
theorem w_and1 (h : Tv X es a x) : Wv X es (.BoolOp .And [a] pos) x := wv_of (pw_and1 pT) fun He σ G H Q S E k => h He σ G H Q S E k
theorem w_or1 (h : Tv X es a x) : Wv X es (.BoolOp .Or [a] pos) x := wv_of (pw_or1 pT) fun He σ G H Q S E k => h He σ G H Q S E k
theorem w_and (h : Tv X es a x) (h2 : x = true → Wv X es (.BoolOp .And (b :: rest) pos) y) : Wv X es (.BoolOp .And (a :: b :: rest) pos) (x && y) :=
  wv_of (pw_and pT pW) fun He σ G H Q S E k => h He σ G H _ S E fun G1 H1 g1 => by
    cases x with
    | true =>
      rw [if_pos rfl]
      exact h2 rfl He σ G1 H1 Q (S.grow g1) g1.s fun G2 H2 g2 => k G2 H2 (g1.trans g2)
    | false =>
      rw [if_neg Bool.false_ne_true]
      exact k G1 H1 g1
theorem w_or (h : Tv X es a x) (h2 : x = false → Wv X es (.BoolOp .Or (b :: rest) pos) y) : Wv X es (.BoolOp .Or (a :: b :: rest) pos) (x || y) :=
  wv_of (pw_or pT pW) fun He σ G H Q S E k => h He σ G H _ S E fun G1 H1 g1 => by
    cases x with
    | true =>
      rw [if_pos rfl]
      exact k G1 H1 g1
    | false =>
      rw [if_neg Bool.false_ne_true]
      exact h2 rfl He σ G1 H1 Q (S.grow g1) g1.s fun G2 H2 g2 => k G2 H2 (g1.trans g2)
theorem t_not (h : Tv X es a x) : Tv X es (.UnaryOp .Not a pos) (!x) := tv_of (pt_not pT) fun He σ G H Q S E k => h He σ G H _ S E fun G1 H1 g1 => k G1 H1 g1
theorem v_one {op : PySem.BoolOp} (h : EvR X es a R) : EvR X es (.BoolOp op [a] pos) R := ev_of (pe_one pE) fun He σ G H Q S E k => h He σ G H Q S E k
theorem v_and (h : Ev X es a (.bool x)) (h2 : x = true → Ev X es (.BoolOp .And (b :: rest) pos) (.bool y)) : Ev X es (.BoolOp .And (a :: b :: rest) pos) (.bool (x && y)) :=
  ev_of (pe_and pE pE) fun He σ G H Q S E k => h He σ G H _ S E fun v G1 H1 g1 o1 => ⟨x, Dt.bool_inv o1, by
    cases x with
    | true =>
      rw [if_pos rfl]
      exact h2 rfl He σ G1 H1 Q (S.grow g1) g1.s fun w G2 H2 g2 o2 => k w G2 H2 (g1.trans g2) o2
    | false =>
      rw [if_neg Bool.false_ne_true]
      exact k _ G1 H1 g1 (.bl _)⟩
theorem v_if (h : Tv X es c x) (h1 : x = true → EvR X es a R) (h2 : x = false → EvR X es b R) (an : Anti R) : EvR X es (.IfExp c a b pos) R :=
  ev_of (pe_ifExp pT pE pE) fun He σ G H Q S E k => h He σ G H _ S E fun G1 H1 g1 => by
    cases x with
    | true =>
      rw [if_pos rfl]
      exact h1 rfl He σ G1 H1 Q (S.grow g1) g1.s fun w G2 H2 g2 o2 => k w G2 H2 (g1.trans g2) (an _ _ _ _ _ g1.h o2)
    | false =>
      rw [if_neg Bool.false_ne_true]
      exact h2 rfl He σ G1 H1 Q (S.grow g1) g1.s fun w G2 H2 g2 o2 => k w G2 H2 (g1.trans g2) (an _ _ _ _ _ g1.h o2)
/-! ### argument lists, displays -/
theorem a_nil : Av X es [] [] := av_of pa_nil fun He σ G H Q S E k => k [] G H (Grow.refl E) .nil
theorem a_cons (h : Ev X es e d) (hr : Av X es as ds) (hs : starEach (e :: as) X.env = (false, eval e X.env) :: starEach as X.env := by rfl) : Av X es (e :: as) (d :: ds) :=
  av_of (pa_cons pE pA hs) fun He σ G H Q S E k => h He σ G H _ S E fun v G1 H1 g1 o1 => hr He σ G1 H1 _ (S.grow g1) g1.s fun vs G2 H2 g2 o2 => k _ G2 H2 (g1.trans g2) (.cons (mono_dat _ _ _ _ _ g2 o1) o2)
/-- *e, a list that may change later -/
theorem a_starL (h : Lv X es e xs) (hr : Av X es as ys) (hs : starEach (.Starred e p :: as) X.env = (true, eval e X.env) :: starEach as X.env := by rfl) : Av X es (.Starred e p :: as) (xs ++ ys) :=
  av_of (StX.pa_star pE pA hs) fun He σ G H Q S E k => h He σ G H _ S E fun v G1 H1 g1 ⟨q, vs, e1, h1, t1⟩ => ⟨q, vs, e1, .inr (SqL.of h1), hr He σ G1 H1 _ (S.grow g1) g1.s fun ws G2 H2 g2 o2 => k _ G2 H2 (g1.trans g2) ((t1.mono g2.g).append o2)⟩
theorem a_starT (h : Ev X es e (.tuple xs)) (hr : Av X es as ys) (hs : starEach (.Starred e p :: as) X.env = (true, eval e X.env) :: starEach as X.env := by rfl) : Av X es (.Starred e p :: as) (xs ++ ys) :=
  av_of (StX.pa_star pE pA hs) fun He σ G H Q S E k => h He σ G H _ S E fun v G1 H1 g1 o1 => by
    obtain ⟨q, vs, e1, h1, t1⟩ := Dt.tuple_inv o1
    exact ⟨q, vs, e1, .inl (ex_t g1.s h1), hr He σ G1 H1 _ (S.grow g1) g1.s fun ws G2 H2 g2 o2 => k _ G2 H2 (g1.trans g2) ((t1.mono g2.g).append o2)⟩
theorem v_tup {kk : Nat} (h : Av X es as ds) (hl : ds.length ≤ 100000 := by first | (show _ ≤ _; decide) | (simp <;> omega)) : Ev X es (.Tuple as kk pos) (.tuple ds) :=
  ev_of (pe_tup pA) fun He σ G H Q S E k => h He σ G H _ S E fun vs G1 H1 g1 o1 => ⟨by rw [o1.1]; exact sz_of hl, fun q hq => k _ _ _ (g1.trans (Grow.new g1.s hq)) (.tup (SqT.of upd_same) o1.1 (o1.mono (Ex.new (ex_none g1.s hq))).2)⟩
theorem n_lst (h : Av X es as ds) (hl : ds.length ≤ 100000 := by first | (show _ ≤ _; decide) | (simp <;> omega)) : Nv X es (.List as pos) ds :=
  ev_of (pe_lst pA) fun He σ G H Q S E k => h He σ G H _ S E fun vs G1 H1 g1 o1 => ⟨by rw [o1.1]; exact sz_of hl, fun q hq => k _ _ _ (g1.trans (Grow.hid g1.s hq)) ⟨q, vs, rfl, ex_none g1.h hq, ex_none g1.s hq, upd_same, o1⟩⟩
/-! ### subscripts -/
theorem plainIx_of {b : Expr} (h : ∀ o i, subscripted b false o i = operate [o, i] (getItem o i)) : PlainIx b := h
theorem v_ixL {j : Nat} (ha : Lv X es a ds) (hb : Ev X es b (.int (j : Int))) (hj : ds[j]? = some d) (hp : PlainIx b := by intro _ _; rfl) : Ev X es (.Subscript a b pos) d :=
  ev_of (pe_ix ix_list pE pE hp) fun He σ G H Q S E k => ha He σ G H _ S E fun v G1 H1 g1 o1 => hb He σ G1 H1 _ (S.grow g1) g1.s fun u G2 H2 g2 o2 => by
    obtain ⟨q, vs, e1, h1, t1⟩ := mono_lsv _ _ _ _ _ g2 o1
    obtain ⟨w, hw, tw⟩ := t1.at hj
    exact ⟨q, vs, _, w, e1, Dt.int_inv o2, SqL.of h1, atI_nat hw, k w G2 H2 (g1.trans g2) tw⟩
theorem v_ixT {j : Nat} (ha : Ev X es a (.tuple ds)) (hb : Ev X es b (.int (j : Int))) (hj : ds[j]? = some d) (hp : PlainIx b := by intro _ _; rfl) : Ev X es (.Subscript a b pos) d :=
  ev_of (pe_ix ix_tup pE pE hp) fun He σ G H Q S E k => ha He σ G H _ S E fun v G1 H1 g1 o1 => hb He σ G1 H1 _ (S.grow g1) g1.s fun u G2 H2 g2 o2 => by
    obtain ⟨q, vs, e1, h1, t1⟩ := Dt.tuple_inv (mono_dat _ _ _ _ _ g2 o1)
    obtain ⟨w, hw, tw⟩ := t1.at hj
    exact ⟨q, vs, _, w, e1, Dt.int_inv o2, ex_t g2.s h1, atI_nat hw, k w G2 H2 (g1.trans g2) tw⟩
theorem v_ixScr {j : Nat} {ns : List Int} {n : Int} (ha : Ev X es a (scr ns)) (hb : Ev X es b (.int (j : Int))) (hj : ns[j]? = some n) (hp : PlainIx b := by intro _ _; rfl) : Ev X es (.Subscript a b pos) (.int n) :=
  ev_of (pe_ix ix_list pE pE hp) fun He σ G H Q S E k => ha He σ G H _ S E fun v G1 H1 g1 o1 => hb He σ G1 H1 _ (S.grow g1) g1.s fun u G2 H2 g2 o2 => by
    obtain ⟨q, e1, h1⟩ := Dt.scr_inv (mono_dat _ _ _ _ _ g2 o1)
    refine ⟨q, ns.map V.int, _, .int n, e1, Dt.int_inv o2, ex_l g2.s h1, atI_nat (by rw [List.getElem?_map, hj]; rfl), k _ G2 H2 (g1.trans g2) (.int n)⟩
theorem v_ixS {j c : Nat} {z : Str} (ha : Ev X es a (.str z)) (hb : Ev X es b (.int (j : Int))) (hz : z.length ≤ 100000) (hj : z.cps.toList[j]? = some c) (hp : PlainIx b := by intro _ _; rfl) : Ev X es (.Subscript a b pos) (.str ⟨#[c]⟩) :=
  ev_of (pe_ix ix_str pE pE hp) fun He σ G H Q S E k => ha He σ G H _ S E fun v G1 H1 g1 o1 => hb He σ G1 H1 _ (S.grow g1) g1.s fun u G2 H2 g2 o2 =>
    ⟨z, _, c, Dt.str_inv o1, Dt.int_inv o2, sz_of hz, atI_nat hj, k _ G2 H2 (g1.trans g2) (.str _)⟩
/-! ### slices -/
def cutD {α : Type} (xs : List α) (lo hi : Option Int) : List α := (xs.drop (HT.sIx xs.length 0 lo)).take (HT.sIx xs.length xs.length hi - HT.sIx xs.length 0 lo)
theorem cutD_nn {α : Type} (xs : List α) (a b : Nat) : cutD xs (some (a : Int)) (some (b : Int)) = (xs.drop a).take (b - a) := by
  unfold cutD
  rw [HT.sIx_nat, HT.sIx_nat]
  apply List.ext_getElem?
  intro i
  rw [List.getElem?_take, List.getElem?_take, List.getElem?_drop, List.getElem?_drop]
  by_cases h1 : i < b - a
  · rw [if_pos h1]
    by_cases h2 : a + i < xs.length
    · rw [if_pos (by omega), show min a xs.length + i = a + i by omega]
    · rw [List.getElem?_eq_none (l := xs) (i := a + i) (by omega)]
      split
      · rw [List.getElem?_eq_none (by omega)]
      · rfl
  · rw [if_neg h1, if_neg (by omega)]
theorem cutD_no {α : Type} (xs : List α) (b : Nat) : cutD xs none (some (b : Int)) = xs.take b := by
  unfold cutD
  rw [HT.sIx_none, HT.sIx_nat, List.drop_zero, Nat.sub_zero]
  by_cases h : b ≤ xs.length
  · rw [Nat.min_eq_left h]
  · rw [Nat.min_eq_right (by omega), List.take_length, List.take_of_length_le (by omega)]
theorem cutD_on {α : Type} (xs : List α) (a : Nat) : cutD xs (some (a : Int)) none = xs.drop a := by
  unfold cutD
  rw [HT.sIx_none, HT.sIx_nat]
  by_cases h : a ≤ xs.length
  · rw [Nat.min_eq_left h, List.take_of_length_le (by simp)]
  · rw [Nat.min_eq_right (by omega), List.drop_length, List.drop_of_length_le (by omega), List.take_nil]
theorem Da.cut {K : PySem.W.Frag} {G : Hp} {vs : List V} {ds : List PyData} (h : Da K G vs ds) (lo hi : Option Int) : Da K G (cutV vs lo hi) (cutD ds lo hi) := by
  unfold cutV cutD
  rw [h.1]
  exact (h.drop _).take _
/-- an optional part -/
def Ov (X : Cx) (es : List Sl) (o : Option Expr) (v : Option Int) : Prop := match o, v with
  | none, none => True
  | some e, some i => Ev X es e (.int i)
  | _, _ => False
def tO (X : Cx) : Option Expr → TO
  | none => tNoPart
  | some e => tPart (tE X e)
theorem pO {o : Option Expr} : PO X o (tO X o) := by
  cases o with
  | none => exact po_none
  | some e => exact po_some pE
theorem Ov.go {o : Option Expr} {v : Option Int} (h : Ov X es o v) {He : Hp} {σ : L2.St} {G H : Hp} {Q : Option Int → Hp → Prop} (S : Sls X.K He G H σ es) (E : Ex G H) (k : ∀ G2 H2, Grow G H G2 H2 → Q v H2) : tO X o σ H Q := by
  cases o with
  | none =>
    cases v with
    | none => exact k G H (Grow.refl E)
    | some i => exact False.elim h
  | some e =>
    cases v with
    | none => exact False.elim h
    | some i => exact h He σ G H _ S E fun v G2 H2 g o => ⟨i, Dt.int_inv o, k G2 H2 g⟩
theorem n_sl {lo hi : Option Expr} {l h : Option Int} (ha : Lv X es a ds) (hl : Ov X es lo l) (hh : Ov X es hi h) : Nv X es (.Subscript a (.Slice lo hi none p2) pos) (cutD ds l h) :=
  ev_of (pe_slice sl_list pE pO pO) fun He σ G H Q S E k => ha He σ G H _ S E fun v G1 H1 g1 o1 => hl.go (S.grow g1) g1.s fun G2 H2 g2 => hh.go (S.grow (g1.trans g2)) g2.s fun G3 H3 g3 => by
    have g123 := (g1.trans g2).trans g3
    obtain ⟨q, vs, e1, h1, t1⟩ := mono_lsv _ _ _ _ _ (g2.trans g3) o1
    exact ⟨q, vs, e1, SqL.of h1, fun q2 hq2 => k _ _ _ (g123.trans (Grow.hid g3.s hq2)) ⟨q2, _, rfl, ex_none g123.h hq2, ex_none g3.s hq2, upd_same, t1.cut l h⟩⟩
theorem v_slS {lo hi : Option Expr} {l h : Option Int} {z : Str} (ha : Ev X es a (.str z)) (hl : Ov X es lo l) (hh : Ov X es hi h) (hz : z.length ≤ 100000) : Ev X es (.Subscript a (.Slice lo hi none p2) pos) (.str (cutS z l h)) :=
  ev_of (pe_slice sl_str pE pO pO) fun He σ G H Q S E k => ha He σ G H _ S E fun v G1 H1 g1 o1 => hl.go (S.grow g1) g1.s fun G2 H2 g2 => hh.go (S.grow (g1.trans g2)) g2.s fun G3 H3 g3 =>
    ⟨z, Dt.str_inv o1, sz_of hz, k _ G3 H3 ((g1.trans g2).trans g3) (.str _)⟩
/-! ### calls of built-ins -/
section
variable {r : List V → Hp → VK → Prop} {id T : String} {x : Str}
theorem o_cb1 (hc : CallR X (.builtin id) r) (hm : X.mg x = none) (hv : bootBuiltins x = some (.builtin id)) (an : Anti R) (ha : EvO X es e O1)
    (hr : ∀ G H v (Q : VK), Ex G H → O1 v G H → (∀ w G2 H2, Grow G H G2 H2 → R H w G2 H2 → Q w H2) → r [v] H Q) (hg : Gl X x := by rfl) (hn : x ≠ "__name__" := by decide) (hdb : (x == ("__debug__" : Str)) = false := by decide)
    (he : starEach [e] X.env = (false, eval e X.env) :: starEach [] X.env := by rfl) : EvR X es (.Call (.Name x p) [e] [] pos) R :=
  ev_of (pe_callB hc hg hm hv (pa_cons pE pa_nil he) hn hdb he) fun He σ G H Q S E k => ha He σ G H _ S E fun v G1 H1 g1 o1 => hr G1 H1 v Q g1.s o1 fun w G2 H2 g2 o2 => k w G2 H2 (g1.trans g2) (an _ _ _ _ _ g1.h o2)
theorem o_ct1 (hc : CallR X (.type T) r) (hm : X.mg x = none) (hv : bootBuiltins x = some (.type T)) (an : Anti R) (ha : EvO X es e O1)
    (hr : ∀ G H v (Q : VK), Ex G H → O1 v G H → (∀ w G2 H2, Grow G H G2 H2 → R H w G2 H2 → Q w H2) → r [v] H Q) (hg : Gl X x := by rfl) (hn : x ≠ "__name__" := by decide) (hdb : (x == ("__debug__" : Str)) = false := by decide)
    (he : starEach [e] X.env = (false, eval e X.env) :: starEach [] X.env := by rfl) : EvR X es (.Call (.Name x p) [e] [] pos) R :=
  ev_of (pe_callTy hc hg hm hv (pa_cons pE pa_nil he) hn hdb he) fun He σ G H Q S E k => ha He σ G H _ S E fun v G1 H1 g1 o1 => hr G1 H1 v Q g1.s o1 fun w G2 H2 g2 o2 => k w G2 H2 (g1.trans g2) (an _ _ _ _ _ g1.h o2)
theorem o_cb (hc : CallR X (.builtin id) r) (hm : X.mg x = none) (hv : bootBuiltins x = some (.builtin id)) (an : Anti R) (ha : Av X es (e :: as) ds)
    (hr : ∀ G H vs (Q : VK), Ex G H → Da X.K G vs ds → (∀ w G2 H2, Grow G H G2 H2 → R H w G2 H2 → Q w H2) → r vs H Q) (hg : Gl X x := by rfl) (hn : x ≠ "__name__" := by decide) (hdb : (x == ("__debug__" : Str)) = false := by decide)
    (he : starEach (e :: as) X.env = (false, eval e X.env) :: starEach as X.env := by rfl) (hpl : (backTo pos (starEach as X.env)).any (·.1) = false := by rfl) : EvR X es (.Call (.Name x p) (e :: as) [] pos) R :=
  ev_of (pe_callB hc hg hm hv pA hn hdb he hpl) fun He σ G H Q S E k => ha He σ G H _ S E fun v G1 H1 g1 o1 => hr G1 H1 v Q g1.s o1 fun w G2 H2 g2 o2 => k w G2 H2 (g1.trans g2) (an _ _ _ _ _ g1.h o2)
end
theorem v_lenL (hm : X.mg "len" = none) (ha : Lv X es e ds) (hg : Gl X "len" := by rfl) (he : starEach [e] X.env = (false, eval e X.env) :: starEach [] X.env := by rfl) : Ev X es (.Call (.Name "len" p) [e] [] pos) (.int ds.length) :=
  o_cb1 call_len_seq hm PySem.boot_len anti_c ha (fun G H v Q E ⟨q, vs, e1, h1, t1⟩ k => ⟨q, vs, by rw [e1], .inl (SqL.of h1), by rw [t1.1]; exact k _ G H (Grow.refl E) (.int _)⟩) hg (by decide) (by decide) he
theorem v_lenT (hm : X.mg "len" = none) (ha : Ev X es e (.tuple ds)) (hg : Gl X "len" := by rfl) (he : starEach [e] X.env = (false, eval e X.env) :: starEach [] X.env := by rfl) : Ev X es (.Call (.Name "len" p) [e] [] pos) (.int ds.length) :=
  o_cb1 call_len_seq hm PySem.boot_len anti_c ha (fun G H v Q E o k => by
    obtain ⟨q, vs, e1, h1, t1⟩ := Dt.tuple_inv o
    exact ⟨q, vs, by rw [e1], .inr (ex_t E h1), by rw [t1.1]; exact k _ G H (Grow.refl E) (.int _)⟩) hg (by decide) (by decide) he
theorem v_lenScr {ns : List Int} (hm : X.mg "len" = none) (ha : Ev X es e (scr ns)) (hg : Gl X "len" := by rfl) (he : starEach [e] X.env = (false, eval e X.env) :: starEach [] X.env := by rfl) : Ev X es (.Call (.Name "len" p) [e] [] pos) (.int ns.length) :=
  o_cb1 call_len_seq hm PySem.boot_len anti_c ha (fun G H v Q E o k => by
    obtain ⟨q, e1, h1⟩ := Dt.scr_inv o
    exact ⟨q, _, by rw [e1], .inl (ex_l E h1), by rw [List.length_map]; exact k _ G H (Grow.refl E) (.int _)⟩) hg (by decide) (by decide) he
theorem v_lenS {z : Str} (hm : X.mg "len" = none) (ha : Ev X es e (.str z)) (hz : z.length ≤ 100000) (hg : Gl X "len" := by rfl) (he : starEach [e] X.env = (false, eval e X.env) :: starEach [] X.env := by rfl) : Ev X es (.Call (.Name "len" p) [e] [] pos) (.int z.length) :=
  o_cb1 call_len_str hm PySem.boot_len anti_c ha (fun G H v Q E o k => ⟨z, by rw [Dt.str_inv o], sz_of hz, k _ G H (Grow.refl E) (.int _)⟩) hg (by decide) (by decide) he
theorem v_ord {c : Nat} (hm : X.mg "ord" = none) (ha : Ev X es e (.str ⟨#[c]⟩)) (hg : Gl X "ord" := by rfl) (he : starEach [e] X.env = (false, eval e X.env) :: starEach [] X.env := by rfl) : Ev X es (.Call (.Name "ord" p) [e] [] pos) (.int (c : Int)) :=
  o_cb1 call_ord hm (by decide +kernel) anti_c ha (fun G H v Q E o k => ⟨⟨#[c]⟩, by rw [Dt.str_inv o], rfl, k _ G H (Grow.refl E) (.int _)⟩) hg (by decide) (by decide) he
theorem v_abs {n : Int} (hm : X.mg "abs" = none) (ha : Ev X es e (.int n)) (hg : Gl X "abs" := by rfl) (he : starEach [e] X.env = (false, eval e X.env) :: starEach [] X.env := by rfl) : Ev X es (.Call (.Name "abs" p) [e] [] pos) (.int (if n < 0 then -n else n)) :=
  o_cb1 call_abs hm (by decide +kernel) anti_c ha (fun G H v Q E o k => ⟨n, by rw [Dt.int_inv o], k _ G H (Grow.refl E) (.int _)⟩) hg (by decide) (by decide) he
theorem v_intI {n : Int} (hm : X.mg "int" = none) (ha : Ev X es e (.int n)) (hg : Gl X "int" := by rfl) (he : starEach [e] X.env = (false, eval e X.env) :: starEach [] X.env := by rfl) : Ev X es (.Call (.Name "int" p) [e] [] pos) (.int n) :=
  o_ct1 call_int1 hm (by decide +kernel) anti_c ha (fun G H v Q E o k => .inl ⟨n, by rw [Dt.int_inv o], k _ G H (Grow.refl E) (.int _)⟩) hg (by decide) (by decide) he
theorem v_max {m n : Int} (hcalm : X.calm = true) (hm : X.mg "max" = none) (ha : Av X es [a, b] [.int m, .int n]) (hg : Gl X "max" := by rfl) (he : starEach [a, b] X.env = (false, eval a X.env) :: starEach [b] X.env := by rfl) (hpl : (backTo pos (starEach [b] X.env)).any (·.1) = false := by rfl) :
    Ev X es (.Call (.Name "max" p) [a, b] [] pos) (.int (if n > m then n else m)) :=
  o_cb (call_max2 hcalm) hm (by decide +kernel) anti_c ha (fun G H vs Q E o k => ⟨m, n, (show vs = ([m, n] : List Int).map V.int from Da.ints o), k _ G H (Grow.refl E) (.int _)⟩) hg (by decide) (by decide) he hpl
theorem v_min {m n : Int} (hcalm : X.calm = true) (hm : X.mg "min" = none) (ha : Av X es [a, b] [.int m, .int n]) (hg : Gl X "min" := by rfl) (he : starEach [a, b] X.env = (false, eval a X.env) :: starEach [b] X.env := by rfl) (hpl : (backTo pos (starEach [b] X.env)).any (·.1) = false := by rfl) :
    Ev X es (.Call (.Name "min" p) [a, b] [] pos) (.int (if n < m then n else m)) :=
  o_cb (call_min2 hcalm) hm (by decide +kernel) anti_c ha (fun G H vs Q E o k => ⟨m, n, (show vs = ([m, n] : List Int).map V.int from Da.ints o), k _ G H (Grow.refl E) (.int _)⟩) hg (by decide) (by decide) he hpl
theorem v_sum {ns : List Int} (hcalm : X.calm = true) (hm : X.mg "sum" = none) (ha : Lv X es e (ns.map PyData.int)) (hg : Gl X "sum" := by rfl) (he : starEach [e] X.env = (false, eval e X.env) :: starEach [] X.env := by rfl) : Ev X es (.Call (.Name "sum" p) [e] [] pos) (.int ns.sum) :=
  o_cb1 (cr_sum hcalm) hm (by decide +kernel) anti_c ha (fun G H v Q E ⟨q, vs, e1, h1, t1⟩ k => ⟨q, ns, by rw [e1], by rw [← Da.ints t1]; exact SqL.of h1, k _ G H (Grow.refl E) (.int _)⟩) hg (by decide) (by decide) he
theorem v_any {bs : List Bool} (hcalm : X.calm = true) (hm : X.mg "any" = none) (ha : Lv X es e (bs.map PyData.bool)) (hg : Gl X "any" := by rfl) (he : starEach [e] X.env = (false, eval e X.env) :: starEach [] X.env := by rfl) : Ev X es (.Call (.Name "any" p) [e] [] pos) (.bool (bs.any fun b => b)) :=
  o_cb1 (cr_any hcalm) hm (by decide +kernel) anti_c ha (fun G H v Q E ⟨q, vs, e1, h1, t1⟩ k => ⟨q, bs, by rw [e1], by rw [← Da.bools t1]; exact SqL.of h1, k _ G H (Grow.refl E) (.bl _)⟩) hg (by decide) (by decide) he
theorem n_listL (hm : X.mg "list" = none) (ha : Lv X es e ds) (hg : Gl X "list" := by rfl) (he : starEach [e] X.env = (false, eval e X.env) :: starEach [] X.env := by rfl) : Nv X es (.Call (.Name "list" p) [e] [] pos) ds :=
  o_ct1 call_list_of hm (by decide +kernel) anti_nwl ha (fun G H v Q E ⟨q, vs, e1, h1, t1⟩ k => ⟨q, vs, by rw [e1], .inl (SqL.of h1), fun q2 hq2 => k _ _ _ (Grow.hid E hq2) ⟨q2, vs, rfl, hq2, ex_none E hq2, upd_same, t1⟩⟩) hg (by decide) (by decide) he
theorem n_listT (hm : X.mg "list" = none) (ha : Ev X es e (.tuple ds)) (hg : Gl X "list" := by rfl) (he : starEach [e] X.env = (false, eval e X.env) :: starEach [] X.env := by rfl) : Nv X es (.Call (.Name "list" p) [e] [] pos) ds :=
  o_ct1 call_list_of hm (by decide +kernel) anti_nwl ha (fun G H v Q E o k => by
    obtain ⟨q, vs, e1, h1, t1⟩ := Dt.tuple_inv o
    exact ⟨q, vs, by rw [e1], .inr (ex_t E h1), fun q2 hq2 => k _ _ _ (Grow.hid E hq2) ⟨q2, vs, rfl, hq2, ex_none E hq2, upd_same, t1⟩⟩) hg (by decide) (by decide) he
theorem v_tupL (hm : X.mg "tuple" = none) (ha : Lv X es e ds) (hg : Gl X "tuple" := by rfl) (he : starEach [e] X.env = (false, eval e X.env) :: starEach [] X.env := by rfl) : Ev X es (.Call (.Name "tuple" p) [e] [] pos) (.tuple ds) :=
  o_ct1 call_tuple_of hm (by decide +kernel) anti_c ha (fun G H v Q E ⟨q, vs, e1, h1, t1⟩ k => ⟨q, vs, by rw [e1], .inl ⟨SqL.of h1, fun q2 hq2 => k _ _ _ (Grow.new E hq2) (.tup (SqT.of upd_same) t1.1 (t1.mono (Ex.new (ex_none E hq2))).2)⟩⟩) hg (by decide) (by decide) he
/-! ### lists and texts put together -/
theorem n_cat (ha : Lv X es a xs) (hb : Lv X es b ys) (hl : xs.length + ys.length ≤ 100000) : Nv X es (.BinOp a .Add b pos) (xs ++ ys) :=
  o_bin op_cat mono_lsv anti_nwl ha hb fun G H v u Q E ⟨q, vs, e1, h1, t1⟩ ⟨q2, ws, e2, h2, t2⟩ k =>
    ⟨q, q2, vs, ws, e1, e2, h1, h2, by rw [t1.1, t2.1]; exact sz_of hl, fun q3 hq3 => k _ _ _ (Grow.hid E hq3) ⟨q3, _, rfl, hq3, ex_none E hq3, upd_same, t1.append t2⟩⟩
theorem Da.rep {K : PySem.W.Frag} {G : Hp} {vs : List V} {ds : List PyData} (h : Da K G vs ds) (n : Nat) : Da K G (List.replicate n vs).flatten (List.replicate n ds).flatten := by
  induction n with
  | zero => exact .nil
  | succ n ih =>
    rw [List.replicate_succ, List.replicate_succ, List.flatten_cons, List.flatten_cons]
    exact h.append ih
theorem n_rep {n : Nat} (ha : Lv X es a xs) (hb : Ev X es b (.int (n : Int))) (hl : xs.length * n ≤ 100000) (hn : n ≤ 100000) : Nv X es (.BinOp a .Mult b pos) (List.replicate n xs).flatten :=
  o_bin op_rep mono_lsv anti_nwl ha hb fun G H v u Q E ⟨q, vs, e1, h1, t1⟩ o2 k =>
    ⟨q, (n : Int), vs, e1, Dt.int_inv o2, h1, by omega, by omega, by rw [t1.1, Int.toNat_natCast]; exact sz_of hl, fun q3 hq3 => k _ _ _ (Grow.hid E hq3) ⟨q3, _, rfl, hq3, ex_none E hq3, upd_same, by rw [Int.toNat_natCast]; exact t1.rep n⟩⟩
theorem v_addS {y z : Str} (ha : Ev X es a (.str y)) (hb : Ev X es b (.str z)) (hl : y.length + z.length ≤ 100000) : Ev X es (.BinOp a .Add b pos) (.str (y ++ z)) :=
  o_bin op_add_str mono_dat anti_c ha hb fun G H v u Q E o1 o2 k => ⟨y, z, Dt.str_inv o1, Dt.str_inv o2, sz_of hl, k _ G H (Grow.refl E) (.str _)⟩
theorem v_join {z : Str} {zs : List Str} {apos : Pos} (ho : Ev X es a (.str z)) (he : Lv X es e (zs.map PyData.str)) (hl : (zs.map (·.length)).sum + zs.length * z.length ≤ 16777216) (hs : starEach [e] X.env = [(false, eval e X.env)] := by rfl)
    (hbase : attributeBase a "join" X.env (eval a X.env) = eval a X.env := by rfl) (hline : (apos.endLine == pos.line) = true := by rfl) : Ev X es (.Call (.Attribute a "join" apos) [e] [] pos) (.str (Txt.join z zs)) :=
  ev_of (pe_join pE pE hs hbase hline) fun He σ G H Q S E k => ho He σ G H _ S E fun v G1 H1 g1 o1 => ⟨⟨z, Dt.str_inv o1⟩, he He σ G1 H1 _ (S.grow g1) g1.s fun u G2 H2 g2 ⟨q, vs, e1, h1, t1⟩ =>
    ⟨z, q, zs, Dt.str_inv o1, by rw [e1], .inl (by rw [← Da.strs t1]; exact SqL.of h1), hl, k _ G2 H2 (g1.trans g2) (.str _)⟩⟩
end
end K9
namespace K9
open PySem PySem.Spec PyProof.Rows L2 Evl
/-! ### blocks -/
structure tS (X : Cx) (sts : List Stmt) (D : Ends) (σ : L2.St) (H : Hp) : Prop where
  go : ∀ pins s, Inv X pins σ H s → wpAny (model X.prog X.w) X.A (execs sts X.env) (SP X pins D) X.xe s
structure tG (X : Cx) (tg : Expr) (v : V) (σ : L2.St) (H : Hp) (Q : L2.St → Hp → Prop) : Prop where
  go : ∀ pins s u, Inv X pins σ H s → RelV v u → wpAny (model X.prog X.w) X.A (assign tg X.env u) (fun _ s' => ∃ σ' H', Inv X pins σ' H' s' ∧ Q σ' H') X.xe s
structure tGs (X : Cx) (ts : List Expr) (vs : List V) (σ : L2.St) (H : Hp) (Q : L2.St → Hp → Prop) : Prop where
  go : ∀ pins s us, Inv X pins σ H s → Vals vs us → wpAny (model X.prog X.w) X.A (assignInOrder ((assignEach ts X.env).map (·.2)) us) (fun _ s' => ∃ σ' H', Inv X pins σ' H' s' ∧ Q σ' H') X.xe s
structure tI (X : Cx) (tg iter : Expr) (σ : L2.St) (H : Hp) (R : It → Hp → Prop) : Prop where
  go : ∀ pins s, Inv X pins σ H s → wpAny (model X.prog X.w) X.A (eval iter X.env) (fun v s1 => wpAny (model X.prog X.w) X.A (pyIter v) (PIE X pins σ tg R) X.xe s1) X.xe s
section
variable {X : Cx} {sts : List Stmt} {tg iter : Expr} {ts : List Expr}
theorem pS : PSs X sts (tS X sts) := ⟨fun pins s _ _ _ I h => h.go pins s I⟩
theorem pG : PG X tg (tG X tg) := ⟨fun pins s _ _ _ u _ I r h => h.go pins s u I r⟩
theorem pGs : PGs X ts (tGs X ts) := ⟨fun pins s _ _ _ us _ I r h => h.go pins s us I r⟩
theorem pI : PI X tg iter (tI X tg iter) := ⟨fun pins s _ _ _ I h => h.go pins s I⟩
end
structure Good (X : Cx) : Prop where
  nd : X.N.Nodup
  calm : X.calm = true
  pass : PassesOwn (model X.prog X.w) X.A X.env X.xe
  hu : X.A.units + 64 < cLine
structure Po where
  nx : List Sl → Prop
  bk : List Sl → Prop := fun _ => False
  ct : List Sl → Prop := fun _ => False
def At (K : PySem.W.Frag) (Ge He G : Hp) (P : List Sl → Prop) : L2.St → Hp → Prop := fun σ' H' => ∃ G' es', Ex G G' ∧ Grow Ge He G' H' ∧ Sls K He G' H' σ' es' ∧ P es'
def ends (K : PySem.W.Frag) (Ge He G : Hp) (R : VK) (po : Po) : Ends := { nx := At K Ge He G po.nx, rt := R, bk := At K Ge He G po.bk, ct := At K Ge He G po.ct }
structure Run (X : Cx) (Ge He : Hp) (R : VK) (es : List Sl) (sts : List Stmt) (po : Po) : Prop where
  run : ∀ σ G H, Grow Ge He G H → Sls X.K He G H σ es → tS X sts (ends X.K Ge He G R po) σ H
section
variable {X : Cx} {Ge He G0 G H : Hp} {R : VK} {es es' es2 : List Sl} {st : Stmt} {sts rest body orelse : List Stmt} {po : Po} {e c tg iter : Expr} {pos pos' p apos cpos : Pos} {d : PyData} {ds xs items : List PyData} {i : Nat}
theorem At.mono {K : PySem.W.Frag} {P Q : List Sl → Prop} {σ : L2.St} (e : Ex G0 G) (h : At K Ge He G P σ H) (w : ∀ es, P es → Q es) : At K Ge He G0 Q σ H := by
  obtain ⟨G', es', a, b, c, d⟩ := h
  exact ⟨G', es', e.trans a, b, c, w _ d⟩
theorem sp_mono {pins : List (Addr × Obj)} {po po' : Po} {f : Flow} {s : Shared} (e : Ex G0 G) (h : SP X pins (ends X.K Ge He G R po) f s) (hn : ∀ es, po.nx es → po'.nx es) (hb : ∀ es, po.bk es → po'.bk es) (hc : ∀ es, po.ct es → po'.ct es) : SP X pins (ends X.K Ge He G0 R po') f s := by
  cases f with
  | next => obtain ⟨σ', H', I, q⟩ := h; exact ⟨σ', H', I, q.mono e hn⟩
  | brk => obtain ⟨σ', H', I, q⟩ := h; exact ⟨σ', H', I, q.mono e hb⟩
  | cont => obtain ⟨σ', H', I, q⟩ := h; exact ⟨σ', H', I, q.mono e hc⟩
  | ret u => exact h
theorem Run.pre (w : Wk es es') (h : Run X Ge He R es' sts po) : Run X Ge He R es sts po := ⟨fun σ G H g S => h.run σ G H g (S.weak w)⟩
theorem Run.post {po' : Po} (h : Run X Ge He R es sts po) (hn : ∀ es, po.nx es → po'.nx es) (hb : ∀ es, po.bk es → po'.bk es) (hc : ∀ es, po.ct es → po'.ct es) : Run X Ge He R es sts po' :=
  ⟨fun σ G H g S => ⟨fun pins s I => thn ((h.run σ G H g S).go pins s I) fun f s1 q => sp_mono (Ex.refl _) q hn hb hc⟩⟩
/-- a statement by its reading in the hand layer, then the rest -/
theorem run_st {t : TS} (h : PS X st t) (mid : List Sl → Prop)
    (hr : ∀ σ G H, Grow Ge He G H → Sls X.K He G H σ es → t { ends X.K Ge He G R po with nx := At X.K Ge He G mid } σ H)
    (hk : ∀ es', mid es' → Run X Ge He R es' rest po) : Run X Ge He R es (st :: rest) po := by
  refine ⟨fun σ G H g S => ⟨fun pins s I => ?_⟩⟩
  refine wpAny_execs_cons (thn (h.run pins s σ H _ I (hr σ G H g S)) fun f s1 q => ?_)
  cases f with
  | next =>
    obtain ⟨σ', H', I', G', es', a, b, c, m⟩ := q
    exact thn ((hk es' m).run σ' G' H' b c |>.go pins s1 I') fun f s2 q2 => sp_mono a q2 (fun _ z => z) (fun _ z => z) fun _ z => z
  | brk => exact q
  | cont => exact q
  | ret v => exact q
theorem r_nil (w : Wk es es') (h : po.nx es') : Run X Ge He R es [] po := ⟨fun σ G H g S => ⟨fun pins s I => wpAny_execs_nil ⟨σ, H, I, G, es', Ex.refl _, g, S.weak w, h⟩⟩⟩
theorem r_pass (h : Run X Ge He R es rest po) : Run X Ge He R es (.Pass pos :: rest) po := run_st ps_pass (· = es) (fun σ G H g S => ⟨G, es, Ex.refl _, g, S, rfl⟩) fun _ e => e ▸ h
theorem r_break (w : Wk es es') (h : po.bk es') : Run X Ge He R es (.Break pos :: rest) po := run_st ps_break (fun _ => False) (fun σ G H g S => ⟨G, es', Ex.refl _, g, S.weak w, h⟩) fun _ e => e.elim
theorem r_never (h : False) : Run X Ge He R es sts po := h.elim
theorem r_set (i : Nat) {x : Str} (gd : Good X) (he : Ev X es e d) (hk : Run X Ge He R (es.set i (.pur d)) rest po) (hi : X.N[i]? = some x := by rfl) (hx : Loc X.env.scope x := by first | exact Or.inl rfl | exact Or.inr rfl)
    (hs : swapsWith e (some (.Name x pos')) pos.line X.env = pure false := by rfl) (hf : X.fn x = true ∨ X.env.scope.names.lookup x = some .local := by first | exact .inl rfl | exact .inr rfl) : Run X Ge He R es (.Assign [.Name x pos'] e pos :: rest) po :=
  run_st (ps_set gd.nd hi hx pE hs hf) (· = es.set i (.pur d)) (fun σ G H g S => he He σ G H _ S g.s fun v G2 H2 g2 o2 => ⟨G2, _, g2.g, g.trans g2, (S.grow g2).set o2, rfl⟩) fun _ z => z ▸ hk
theorem set_own (g : Grow Ge He G H) {σ : L2.St} (S : Sls X.K He G H σ es) {v : V} {G2 H2 : Hp} (g2 : Grow G H G2 H2) (o2 : nwl X.K ds H v G2 H2) : Sls X.K He G2 H2 (σ.set i (some v)) (es.set i (.own ds)) := by
  obtain ⟨q, vs, rfl, h0, h1, h2, t⟩ := o2
  refine (S.grow g2).setOwn (ex_none g.h h0) h1 h2 (fun j ds' hj hs => ?_) t
  obtain ⟨q', vs', e1, _, _, e4, _⟩ := S.own hj
  rw [hs] at e1
  have := V.ref.inj (Option.some.inj (Option.some.inj e1))
  subst this
  rw [h0] at e4
  cases e4
theorem r_own (i : Nat) {x : Str} (gd : Good X) (he : Nv X es e ds) (hk : Run X Ge He R (es.set i (.own ds)) rest po) (hi : X.N[i]? = some x := by rfl) (hx : Loc X.env.scope x := by first | exact Or.inl rfl | exact Or.inr rfl)
    (hs : swapsWith e (some (.Name x pos')) pos.line X.env = pure false := by rfl) (hf : X.fn x = true ∨ X.env.scope.names.lookup x = some .local := by first | exact .inl rfl | exact .inr rfl) : Run X Ge He R es (.Assign [.Name x pos'] e pos :: rest) po :=
  run_st (ps_set gd.nd hi hx pE hs hf) (· = es.set i (.own ds)) (fun σ G H g S => he He σ G H _ S g.s fun v G2 H2 g2 o2 => ⟨G2, _, g2.g, g.trans g2, set_own g S g2 o2, rfl⟩) fun _ z => z ▸ hk
/-- an own list will not change any more -/
theorem r_frz (i : Nat) (h : es[i]? = some (.own ds)) (hk : Run X Ge He R (es.set i (.pur (.list ds))) sts po) : Run X Ge He R es sts po := by
  refine ⟨fun σ G H g S => ⟨fun pins s I => ?_⟩⟩
  obtain ⟨q, vs, h0, h1, h2, S2⟩ := S.freeze g.s h
  have ex : Ex G (upd G q (.lst vs)) := Ex.new h1
  have g2 : Grow Ge He (upd G q (.lst vs)) H := by
    refine ⟨g.g.trans ex, g.h, fun b u e => ?_, fun b e1 e2 => ?_⟩
    · by_cases z : b = q
      · subst z
        rw [upd_same] at e
        rw [← e]
        exact h2
      · rw [upd_ne z] at e
        exact g.s b u e
    · by_cases z : b = q
      · rw [z]; exact h0
      · rw [upd_ne z] at e2
        exact g.n b e1 e2
  exact thn ((hk.run σ _ H g2 S2).go pins s I) fun f s1 q2 => sp_mono ex q2 (fun _ z => z) (fun _ z => z) fun _ z => z
theorem Grow.wr {p : Addr} {o : HO} (g : Grow Ge He G H) (h0 : He p = none) (h1 : G p = none) : Grow Ge He G (upd H p o) := by
  refine ⟨g.g, fun b u e => ?_, fun b u e => ?_, g.n⟩
  · rw [upd_ne (ne_of_none e h0)]
    exact g.h b u e
  · rw [upd_ne (ne_of_none e h1)]
    exact g.s b u e
/-- x.append(e) -/
theorem r_app (i : Nat) {x : Str} {p1 : Pos} (gd : Good X) (h : es[i]? = some (.own ds)) (he : Ev X es e d) (hl : ds.length < 100000) (hk : Run X Ge He R (es.set i (.own (ds ++ [d]))) rest po) (hN : X.N[i]? = some x := by rfl)
    (hv : Vis X.env.scope x := by first | exact Or.inl rfl | exact Or.inr (Or.inl rfl) | exact Or.inr (Or.inr rfl)) (hd : (x == ("__debug__" : Str)) = false := by decide) (hcd : (x == ("__classdict__" : Str)) = false := by decide)
    (hbase : attributeBase (.Name x p1) "append" X.env (eval (.Name x p1) X.env) = eval (.Name x p1) X.env := by rfl)
    (hfew : ((backTo cpos (starEach [e] X.env)).all (fun x => !x.1) && (backToKw cpos (keywordEach [] X.env)).all (fun x => x.1.isSome)
      && decide ([e].length + ([] : List Keyword).length + (if ([] : List Keyword).isEmpty then 0 else 1) < 30)) = true := by rfl)
    (hline : (apos.endLine == cpos.line) = true := by rfl) (hs : starEach [e] X.env = (false, eval e X.env) :: starEach [] X.env := by rfl) (hplain : (backTo cpos (starEach [] X.env)).any (·.1) = false := by rfl)
    (hsw : swapsWith (.Call (.Attribute (.Name x p1) "append" apos) [e] [] cpos) none pos.line X.env = pure false := by rfl) :
    Run X Ge He R es (.Expr (.Call (.Attribute (.Name x p1) "append" apos) [e] [] cpos) pos :: rest) po :=
  run_st (ps_expr (pe_bm PySem.F.plainAttrs_list PySem.F.slot_list_append PySem.F.type_list_append mt_append (pe_var hN hv hd hcd) (pa_cons pE pa_nil hs) hbase hfew hline hs hplain) hsw) (· = es.set i (.own (ds ++ [d])))
    (fun σ G H g S => by
      obtain ⟨q, vs, e1, h0, h1, h2, t⟩ := S.own h
      refine ⟨_, e1, .inl ⟨rfl, vs, SqL.of h2⟩, he He σ G H _ S g.s fun v G2 H2 g2 o2 => ?_⟩
      have h1' : G2 q = none := by
        cases z : G2 q with
        | none => rfl
        | some u =>
          have := g2.n q h1 (by rw [z]; simp)
          rw [h2] at this
          cases this
      refine ⟨q, vs, v, rfl, rfl, g2.h _ _ h2, by rw [t.1]; exact sz_lt hl, G2, _, g2.g, (g.trans g2).wr h0 h1', (S.grow g2).write h e1 ((t.mono g2.g).snoc o2), rfl⟩) fun _ z => z ▸ hk
/-- x.extend(ys) -/
theorem r_ext (i : Nat) {x : Str} {p1 : Pos} (gd : Good X) (h : es[i]? = some (.own ds)) (he : Lv X es e xs) (hl : ds.length + xs.length ≤ 100000) (hk : Run X Ge He R (es.set i (.own (ds ++ xs))) rest po) (hN : X.N[i]? = some x := by rfl)
    (hv : Vis X.env.scope x := by first | exact Or.inl rfl | exact Or.inr (Or.inl rfl) | exact Or.inr (Or.inr rfl)) (hd : (x == ("__debug__" : Str)) = false := by decide) (hcd : (x == ("__classdict__" : Str)) = false := by decide)
    (hbase : attributeBase (.Name x p1) "extend" X.env (eval (.Name x p1) X.env) = eval (.Name x p1) X.env := by rfl)
    (hfew : ((backTo cpos (starEach [e] X.env)).all (fun x => !x.1) && (backToKw cpos (keywordEach [] X.env)).all (fun x => x.1.isSome)
      && decide ([e].length + ([] : List Keyword).length + (if ([] : List Keyword).isEmpty then 0 else 1) < 30)) = true := by rfl)
    (hline : (apos.endLine == cpos.line) = true := by rfl) (hs : starEach [e] X.env = (false, eval e X.env) :: starEach [] X.env := by rfl) (hplain : (backTo cpos (starEach [] X.env)).any (·.1) = false := by rfl)
    (hsw : swapsWith (.Call (.Attribute (.Name x p1) "extend" apos) [e] [] cpos) none pos.line X.env = pure false := by rfl) :
    Run X Ge He R es (.Expr (.Call (.Attribute (.Name x p1) "extend" apos) [e] [] cpos) pos :: rest) po :=
  run_st (ps_expr (pe_bm PySem.F.plainAttrs_list PySem.F.slot_list_extend PySem.F.type_list_extend mt_extend (pe_var hN hv hd hcd) (pa_cons pE pa_nil hs) hbase hfew hline hs hplain) hsw) (· = es.set i (.own (ds ++ xs)))
    (fun σ G H g S => by
      obtain ⟨q, vs, e1, h0, h1, h2, t⟩ := S.own h
      refine ⟨_, e1, .inl ⟨rfl, vs, SqL.of h2⟩, he He σ G H _ S g.s fun v G2 H2 g2 ⟨q2, ws, e2, k2, t2⟩ => ?_⟩
      subst e2
      have h1' : G2 q = none := by
        cases z : G2 q with
        | none => rfl
        | some u =>
          have := g2.n q h1 (by rw [z]; simp)
          rw [h2] at this
          cases this
      refine ⟨q, q2, vs, ws, rfl, rfl, g2.h _ _ h2, k2, by rw [t.1, t2.1]; exact sz_of hl, G2, _, g2.g, (g.trans g2).wr h0 h1', (S.grow g2).write h e1 ((t.mono g2.g).append t2), rfl⟩) fun _ z => z ▸ hk
/-- x[j] = e, x an own list -/
theorem r_setItem (i : Nat) {x : Str} {p1 : Pos} {ix : Expr} {j : Nat} (gd : Good X) (h : es[i]? = some (.own ds)) (he : Ev X es e d) (hj : Ev X es ix (.int (j : Int))) (hl : j < ds.length) (hk : Run X Ge He R (es.set i (.own (ds.set j d))) rest po) (hN : X.N[i]? = some x := by rfl)
    (hv : Vis X.env.scope x := by first | exact Or.inl rfl | exact Or.inr (Or.inl rfl) | exact Or.inr (Or.inr rfl)) (hd : (x == ("__debug__" : Str)) = false := by decide) (hcd : (x == ("__classdict__" : Str)) = false := by decide)
    (ha : ∀ v, assign (.Subscript (.Name x p1) ix p) X.env v = (do
      let ov ← holding [v] (eval (.Name x p1) X.env)
      let iv ← holding [v, ov] (eval ix X.env)
      standAt p
      holding [v, ov, iv] (setItem ov iv v)
      release [v, ov, iv] []) := by intro _; rfl)
    (hs : swapsWithSole [.Subscript (.Name x p1) ix p] e pos.line X.env = pure false := by rfl) (hw : swappedStores [.Subscript (.Name x p1) ix p] e X.env = pure none := by rfl)
    (h1 : (assignEach [.Subscript (.Name x p1) ix p] X.env).map (·.2) = [assign (.Subscript (.Name x p1) ix p) X.env] := by rfl) :
    Run X Ge He R es (.Assign [.Subscript (.Name x p1) ix p] e pos :: rest) po :=
  run_st (ps_asg pE (pg_sub (pe_var hN hv hd hcd) pE set_list ha) hs hw h1) (· = es.set i (.own (ds.set j d)))
    (fun σ G H g S => he He σ G H _ S g.s fun v G2 H2 g2 o2 => by
      obtain ⟨q, vs, e1, h0, h1, h2, t⟩ := (S.grow g2).own h
      refine ⟨_, e1, hj He σ G2 H2 _ (S.grow g2) g2.s fun w G3 H3 g3 o3 => ?_⟩
      have h1' : G3 q = none := by
        cases z : G3 q with
        | none => rfl
        | some u =>
          have := g3.n q h1 (by rw [z]; simp)
          rw [h2] at this
          cases this
      refine ⟨q, vs, (j : Int), j, rfl, Dt.int_inv o3, g3.h _ _ h2, Evl.ixN_nat (by rw [t.1]; exact hl), G3, _, g2.g.trans g3.g, ((g.trans g2).trans g3).wr h0 h1', (S.grow (g2.trans g3)).write h e1 ((t.mono g3.g).set (mono_dat _ _ _ _ _ g3 o2) j), rfl⟩) fun _ z => z ▸ hk
theorem r_ret (he : Ev X es e d) (hR : ∀ v G H, Grow Ge He G H → Dt X.K G v d → R v H) : Run X Ge He R es (.Return (some e) pos :: rest) po :=
  run_st (ps_ret pE) (fun _ => False) (fun σ G H g S => he He σ G H _ S g.s fun v G2 H2 g2 o2 => hR v G2 H2 (g.trans g2) o2) fun _ z => z.elim
theorem r_retN (he : Nv X es e ds) (hR : ∀ v G H, Grow Ge He G H → nwl X.K ds He v G H → R v H) : Run X Ge He R es (.Return (some e) pos :: rest) po :=
  run_st (ps_ret pE) (fun _ => False) (fun σ G H g S => he He σ G H _ S g.s fun v G2 H2 g2 o2 => hR v G2 H2 (g.trans g2) (anti_nwl _ _ _ _ _ g.h o2)) fun _ z => z.elim
theorem r_if {b : Bool} (mid : List Sl → Prop) (hc : Tv X es c b) (h1 : b = true → Run X Ge He R es body { po with nx := mid }) (h2 : b = false → Run X Ge He R es orelse { po with nx := mid }) (hk : ∀ es', mid es' → Run X Ge He R es' rest po) :
    Run X Ge He R es (.If c body orelse pos :: rest) po :=
  run_st (ps_if pT pS pS) mid (fun σ G H g S => hc He σ G H _ S g.s fun G2 H2 g2 => by
    cases b with
    | true =>
      rw [if_pos rfl]
      exact ⟨fun pins s I => thn (((h1 rfl).run σ G2 H2 (g.trans g2) (S.grow g2)).go pins s I) fun f s1 q => sp_mono (po' := { po with nx := mid }) g2.g q (fun _ z => z) (fun _ z => z) fun _ z => z⟩
    | false =>
      rw [if_neg Bool.false_ne_true]
      exact ⟨fun pins s I => thn (((h2 rfl).run σ G2 H2 (g.trans g2) (S.grow g2)).go pins s I) fun f s1 q => sp_mono (po' := { po with nx := mid }) g2.g q (fun _ z => z) (fun _ z => z) fun _ z => z⟩) hk
/-- an if whose branch leaves -/
theorem r_ifL {b : Bool} (hc : Tv X es c b) (h1 : b = true → Run X Ge He R es body { po with nx := fun _ => False }) (h2 : b = false → Run X Ge He R es rest po) : Run X Ge He R es (.If c body [] pos :: rest) po :=
  r_if (fun es' => es' = es ∧ b = false) hc (fun hb => (h1 hb).post (fun _ z => z.elim) (fun _ z => z) fun _ z => z) (fun hb => r_nil (Wk.refl _) ⟨rfl, hb⟩) fun _ ⟨e1, hb⟩ => e1 ▸ h2 hb
/-! ### what a loop walks -/
def Wl (K : PySem.W.Frag) (J : It) (G0 : Hp) (items : List PyData) : Prop :=
  ∀ (i : Nat) G H, Ex G0 G → Ex G H → (i < items.length → J.go i H ∧ ∀ x H', J.yld i H x H' → ∃ d G', items[i]? = some d ∧ Grow G H G' H' ∧ Dt K G' x d) ∧ (i = items.length → J.stop i H)
def Iv (X : Cx) (es : List Sl) (tg iter : Expr) (items : List PyData) : Prop :=
  ∀ He σ G H (R : It → Hp → Prop), Sls X.K He G H σ es → Ex G H → (∀ J G2 H2, Grow G H G2 H2 → Wl X.K J G2 items → R J H2) → tI X tg iter σ H R
theorem iv_of {wi : TI} (h : PI X tg iter wi) (r : ∀ He σ G H (R : It → Hp → Prop), Sls X.K He G H σ es → Ex G H → (∀ J G2 H2, Grow G H G2 H2 → Wl X.K J G2 items → R J H2) → wi σ H R) : Iv X es tg iter items :=
  fun He σ G H R S E k => ⟨fun pins s I => h.run pins s σ H R I (r He σ G H R S E k)⟩
theorem i_list (ha : Ev X es iter (.list xs)) : Iv X es tg iter xs :=
  iv_of (pi_list pE) fun He σ G H R S E k => ha He σ G H _ S E fun v G2 H2 g2 o2 => by
    obtain ⟨a, vs, e1, h1, t1⟩ := Dt.list_inv o2
    refine ⟨a, e1, ⟨vs, SqL.of (g2.s _ _ h1)⟩, k _ G2 H2 g2 fun i G H e e' => ⟨fun hi => ?_, fun hi => ?_⟩⟩
    · have hi' : i < vs.length := by rw [t1.1]; exact hi
      have sq : SqL X.K H a vs := SqL.of (e' _ _ (e _ _ h1))
      refine ⟨⟨vs, vs[i], sq, List.getElem?_eq_getElem hi'⟩, fun x H' ⟨e2, hx⟩ => ?_⟩
      subst e2
      exact ⟨xs[i], G, List.getElem?_eq_getElem hi, Grow.refl e', (t1.2 i x _ (hx vs sq) (List.getElem?_eq_getElem hi)).mono e⟩
    · exact ⟨vs, SqL.of (e' _ _ (e _ _ h1)), by rw [t1.1, hi]; exact Nat.le_refl _⟩
theorem i_rev (hm : X.mg "reversed" = none) (ha : Ev X es e (.list xs)) (hg : Gl X "reversed" := by rfl) (hs : starEach [e] X.env = [(false, eval e X.env)] := by rfl) : Iv X es tg (.Call (.Name "reversed" p) [e] [] pos) xs.reverse :=
  iv_of (pi_reversed hg hm (pa_cons pE pa_nil hs) hs) fun He σ G H R S E k => ha He σ G H _ S E fun v G2 H2 g2 o2 => by
    obtain ⟨a, vs, e1, h1, t1⟩ := Dt.list_inv o2
    refine ⟨a, vs, by rw [e1], SqL.of (g2.s _ _ h1), k _ G2 H2 g2 fun i G H e e' => ⟨fun hi => ?_, fun hi => ?_⟩⟩
    · have hi' : i < vs.length := by rw [t1.1, ← List.length_reverse]; exact hi
      have sq : SqL X.K H a vs := SqL.of (e' _ _ (e _ _ h1))
      have hj : vs.length - 1 - i < vs.length := by omega
      have hj2 : vs.length - 1 - i < xs.length := by rw [← t1.1]; exact hj
      have er : xs.reverse[i]? = some xs[vs.length - 1 - i] := by
        rw [List.getElem?_reverse (by rw [← t1.1]; exact hi'), ← t1.1]
        exact List.getElem?_eq_getElem hj2
      refine ⟨⟨hi', vs, vs[vs.length - 1 - i], sq, List.getElem?_eq_getElem hj⟩, fun x H' ⟨e2, hx⟩ => ?_⟩
      subst e2
      exact ⟨_, G, er, Grow.refl e', (t1.2 _ x _ (hx vs sq) (List.getElem?_eq_getElem hj2)).mono e⟩
    · show vs.length ≤ i
      rw [hi, List.length_reverse, t1.1]
      exact Nat.le_refl _
theorem i_str {z : Str} (ha : Ev X es iter (.str z)) : Iv X es tg iter (z.cps.toList.map fun c => .str ⟨#[c]⟩) :=
  iv_of (pi_str pE) fun He σ G H R S E k => ha He σ G H _ S E fun v G2 H2 g2 o2 => by
    refine ⟨z, Dt.str_inv o2, k _ G2 H2 g2 fun i G H e e' => ⟨fun hi => ?_, fun hi => ?_⟩⟩
    · have hi' : i < z.cps.size := by simpa using hi
      refine ⟨hi', fun x H' ⟨e2, c, hc, ex⟩ => ?_⟩
      subst e2 ex
      refine ⟨.str ⟨#[c]⟩, G, ?_, Grow.refl e', .str _⟩
      rw [List.getElem?_map, Array.getElem?_toList, hc]
      rfl
    · show z.cps.size ≤ i
      rw [hi]
      simp
theorem i_range {n : Int} (hm : X.mg "range" = none) (ha : Ev X es e (.int n)) (h1 : -100000 ≤ n) (h2 : n ≤ 100000) (hg : Gl X "range" := by rfl) (hs : starEach [e] X.env = [(false, eval e X.env)] := by rfl) :
    Iv X es tg (.Call (.Name "range" p) [e] [] pos) ((List.range n.toNat).map fun (j : Nat) => .int (j : Int)) :=
  iv_of (pi_range1 hg hm (pa_cons pE pa_nil hs) hs) fun He σ G H R S E k => ha He σ G H _ S E fun v G2 H2 g2 o2 => by
    refine ⟨n, by rw [Dt.int_inv o2], by omega, by omega, k _ G2 H2 g2 fun i G H e e' => ⟨fun hi => ?_, fun hi => ?_⟩⟩
    · have hi' : i < n.toNat := by simpa using hi
      refine ⟨hi', fun x H' ⟨e2, ex⟩ => ?_⟩
      subst e2 ex
      refine ⟨.int (i : Int), G, ?_, Grow.refl e', ?_⟩
      · rw [List.getElem?_map, List.getElem?_range hi']
        rfl
      · rw [Int.zero_add]
        exact .int _
    · show n.toNat ≤ i
      rw [hi]
      simp
theorem i_range2 {a b : Expr} {lo n : Int} (hm : X.mg "range" = none) (ha : Av X es [a, b] [.int lo, .int n]) (h0 : -100000 ≤ lo ∧ lo ≤ 100000) (h1 : -100000 ≤ n) (h2 : n ≤ 100000) (hg : Gl X "range" := by rfl) (hs : starEach [a, b] X.env = [(false, eval a X.env), (false, eval b X.env)] := by rfl) (hs2 : starEach [b] X.env = [(false, eval b X.env)] := by rfl) :
    Iv X es tg (.Call (.Name "range" p) [a, b] [] pos) ((List.range (n - lo).toNat).map fun (j : Nat) => .int (lo + (j : Int))) :=
  iv_of (pi_range2 hg hm pA hs hs2) fun He σ G H R S E k => ha He σ G H _ S E fun v G2 H2 g2 o2 => by
    refine ⟨lo, n, (show v = ([lo, n] : List Int).map V.int from Da.ints o2), ⟨by omega, by omega, by omega, by omega⟩, k _ G2 H2 g2 fun i G H e e' => ⟨fun hi => ?_, fun hi => ?_⟩⟩
    · have hi' : i < (n - lo).toNat := by simpa using hi
      refine ⟨hi', fun x H' ⟨e2, ex⟩ => ?_⟩
      subst e2 ex
      refine ⟨.int (lo + (i : Int)), G, ?_, Grow.refl e', .int _⟩
      rw [List.getElem?_map, List.getElem?_range hi']
      rfl
    · show (n - lo).toNat ≤ i
      rw [hi]
      simp
/-- range(lo, hi, -1) -/
theorem i_down {a b c : Expr} {lo n : Int} (hm : X.mg "range" = none) (ha : Av X es [a, b, c] [.int lo, .int n, .int (-1)]) (h0 : -100000 ≤ lo ∧ lo ≤ 100000) (h1 : -100000 ≤ n) (h2 : n ≤ 100000) (hg : Gl X "range" := by rfl)
    (hs : starEach [a, b, c] X.env = (false, eval a X.env) :: starEach [b, c] X.env := by rfl) (hpl : (backTo pos (starEach [b, c] X.env)).any (·.1) = false := by rfl) :
    Iv X es tg (.Call (.Name "range" p) [a, b, c] [] pos) ((List.range (lo - n).toNat).map fun (j : Nat) => .int (lo - (j : Int))) :=
  iv_of (pi_range3 hg hm pA hs hpl) fun He σ G H R S E k => ha He σ G H _ S E fun v G2 H2 g2 o2 => by
    refine ⟨lo, n, -1, (lo - n).toNat, (show v = ([lo, n, -1] : List Int).map V.int from Da.ints o2), RgC.neg (by omega) (by omega) (by omega) (by omega), k _ G2 H2 g2 fun i G H e e' => ⟨fun hi => ?_, fun hi => ?_⟩⟩
    · have hi' : i < (lo - n).toNat := by simpa using hi
      refine ⟨hi', fun x H' ⟨e2, ex⟩ => ?_⟩
      subst e2 ex
      refine ⟨.int (lo - (i : Int)), G, ?_, Grow.refl e', ?_⟩
      · rw [List.getElem?_map, List.getElem?_range hi']
        rfl
      · rw [show lo + ((i : Nat) : Int) * (-1) = lo - (i : Int) by omega]
        exact .int _
    · show (lo - n).toNat ≤ i
      rw [hi]
      simp
theorem i_enum {elts : List Expr} {kk : Nat} {tpos : Pos} (hm : X.mg "enumerate" = none) (ha : Ev X es e (.list xs)) (hg : Gl X "enumerate" := by rfl) (hs : starEach [e] X.env = [(false, eval e X.env)] := by rfl) :
    Iv X es (.Tuple elts kk tpos) (.Call (.Name "enumerate" p) [e] [] pos) (xs.mapIdx fun j d => .tuple [.int (j : Int), d]) :=
  iv_of (pi_enum hg hm (pa_cons pE pa_nil hs) hs) fun He σ G H R S E k => ha He σ G H _ S E fun v G2 H2 g2 o2 => by
    obtain ⟨a, vs, e1, h1, t1⟩ := Dt.list_inv o2
    refine ⟨a, vs, by rw [e1], SqL.of (g2.s _ _ h1), k _ G2 H2 g2 fun i G H e e' => ⟨fun hi => ?_, fun hi => ?_⟩⟩
    · have hi0 : i < xs.length := by simpa using hi
      have hi' : i < vs.length := by rw [t1.1]; exact hi0
      have sq : SqL X.K H a vs := SqL.of (e' _ _ (e _ _ h1))
      refine ⟨⟨vs, vs[i], sq, List.getElem?_eq_getElem hi'⟩, fun x H' ⟨T, y, ex, nT, e2, hx⟩ => ?_⟩
      subst e2 ex
      have ty : Dt X.K G y xs[i] := (t1.2 i y _ (hx vs sq) (List.getElem?_eq_getElem hi0)).mono e
      refine ⟨.tuple [.int (i : Int), xs[i]], upd G T (.tup [.int (i : Nat), y]), ?_, Grow.new e' nT, ?_⟩
      · rw [List.getElem?_mapIdx, List.getElem?_eq_getElem hi0]
        rfl
      · have D : Da X.K (upd G T (.tup [.int (i : Nat), y])) [.int (i : Nat), y] [.int (i : Int), xs[i]] := .cons (.int _) (.cons (ty.mono (Ex.new (ex_none e' nT))) .nil)
        exact .tup (SqT.of upd_same) D.1 D.2
    · exact ⟨vs, SqL.of (e' _ _ (e _ _ h1)), by rw [t1.1, hi]; simp⟩
/-! ### targets -/
theorem wipe_set {j : Nat} {o : Option V} : ∀ {vs : List Nat} {σ : L2.St}, j ∈ vs → wipe (σ.set j o) vs = wipe σ vs
  | [], _, h => by cases h
  | v :: vs, σ, h => by
    show (wipe (σ.set j o) vs).set v none = (wipe σ vs).set v none
    by_cases hj : j ∈ vs
    · rw [wipe_set hj]
    · have e : j = v := (List.mem_cons.mp h).resolve_right hj
      subst e
      have key : ∀ (us : List Nat) (τ : L2.St), (wipe (τ.set j o) us).set j none = (wipe τ us).set j none := by
        intro us
        induction us with
        | nil => intro τ; exact List.set_set ..
        | cons u us ih =>
          intro τ
          show ((wipe (τ.set j o) us).set u none).set j none = ((wipe τ us).set u none).set j none
          by_cases q : u = j
          · subst q
            rw [ih]
          · rw [List.set_comm _ _ q, ih, List.set_comm _ _ (Ne.symm q)]
      exact key vs σ
def Gv (X : Cx) (tg : Expr) (d : PyData) (es es2 : List Sl) (vs : List Nat) : Prop :=
  ∀ He σ G H v (Q : L2.St → Hp → Prop), Sls X.K He G H σ es → Ex G H → Dt X.K G v d → (∀ σ', wipe σ' vs = wipe σ vs → Sls X.K He G H σ' es2 → Q σ' H) → tG X tg v σ H Q
def Gvs (X : Cx) (ts : List Expr) (ds : List PyData) (es es2 : List Sl) (vs : List Nat) : Prop :=
  ∀ He σ G H ws (Q : L2.St → Hp → Prop), Sls X.K He G H σ es → Ex G H → Da X.K G ws ds → (∀ σ', wipe σ' vs = wipe σ vs → Sls X.K He G H σ' es2 → Q σ' H) → tGs X ts ws σ H Q
theorem g_name (i : Nat) {x : Str} {vs : List Nat} (nd : X.N.Nodup) (hj : i ∈ vs) (hi : X.N[i]? = some x := by rfl) (hx : Loc X.env.scope x := by first | exact Or.inl rfl | exact Or.inr rfl) (hf : X.fn x = true ∨ X.env.scope.names.lookup x = some .local := by first | exact .inl rfl | exact .inr rfl) :
    Gv X (.Name x pos) d es (es.set i (.pur d)) vs := fun He σ G H v Q S E t k => ⟨fun pins s u I r =>
  (pg_name nd hi hx hf).run pins s σ H v u Q I r (k _ (wipe_set hj) (S.set t))⟩
theorem gs_nil {vs : List Nat} : Gvs X [] [] es es vs := fun He σ G H ws Q S E t k => ⟨fun pins s us I r => pgs_nil.run pins s σ H ws us Q I r ⟨t.nil_inv, k σ rfl S⟩⟩
theorem gs_cons {ts : List Expr} {e1 : Expr} {vs : List Nat} (h1 : Gv X e1 d es es' vs) (h2 : Gvs X ts ds es' es2 vs) (hs : (assignEach (e1 :: ts) X.env).map (·.2) = assign e1 X.env :: (assignEach ts X.env).map (·.2) := by rfl) : Gvs X (e1 :: ts) (d :: ds) es es2 vs := fun He σ G H ws Q S E t k => ⟨fun pins s us I r =>
  (pgs_cons pG pGs hs).run pins s σ H ws us Q I r (by
    obtain ⟨u, us', e0, t1, t2⟩ := Da.cons_inv t
    exact ⟨u, us', e0, h1 He σ G H u _ S E t1 fun σ1 w1 S1 => h2 He σ1 G H us' _ S1 E t2 fun σ2 w2 S2 => k σ2 (w2.trans w1) S2⟩)⟩
theorem g_tup {ts : List Expr} {kk : Nat} {vs : List Nat} (hc : X.calm = true) (h : Gvs X ts ds es es2 vs) (hn : (assignEach ts X.env).length = ds.length := by rfl) (hst : (assignEach ts X.env).findIdx? (·.1) = none := by rfl) : Gv X (.Tuple ts kk pos) (.tuple ds) es es2 vs := fun He σ G H v Q S E t k => ⟨fun pins s u I r =>
  (pg_tup hc pGs hn hst).run pins s σ H v u Q I r (by
    obtain ⟨a, ws, e0, t1, t2⟩ := Dt.tuple_inv t
    exact ⟨a, ws, e0, ex_t E t1, t2.1, h He σ G H ws Q S E t2 k⟩)⟩
/-- (a, b, ..) = e -/
theorem r_unp {ts : List Expr} {kk : Nat} {tpos : Pos} (gd : Good X) (he : Ev X es e (.tuple ds)) {vs : List Nat} (hg : Gvs X ts ds es es2 vs) (hk : Run X Ge He R es2 rest po) (hn : (assignEach ts X.env).length = ds.length := by rfl) (hst : (assignEach ts X.env).findIdx? (·.1) = none := by rfl)
    (hs : swapsWithSole [.Tuple ts kk tpos] e pos.line X.env = pure false := by rfl) (hw : swappedStores [.Tuple ts kk tpos] e X.env = pure none := by rfl)
    (h1 : (assignEach [.Tuple ts kk tpos] X.env).map (·.2) = [assign (.Tuple ts kk tpos) X.env] := by rfl) : Run X Ge He R es (.Assign [.Tuple ts kk tpos] e pos :: rest) po :=
  run_st (ps_asg pE pG hs hw h1) (· = es2) (fun σ G H g S => he He σ G H _ S g.s fun v G2 H2 g2 o2 =>
    g_tup gd.calm hg hn hst He σ G2 H2 v _ (S.grow g2) g2.s o2 fun σ' _ S' => ⟨G2, es2, g2.g, g.trans g2, S', rfl⟩) fun _ z => z ▸ hk
/-! ### loops -/
theorem r_for (gd : Good X) (hI : Iv X es tg iter items) (inv : Nat → List Sl → Prop) (brk : List Sl → Prop) (vs : List Nat) (h0 : inv 0 es)
    (turn : ∀ (i : Nat) d es1, items[i]? = some d → inv i es1 → ∃ es2, Gv X tg d es1 es2 vs ∧ Run X Ge He R es2 body { nx := inv (i + 1), ct := inv (i + 1), bk := brk })
    (fin : ∀ es1, inv items.length es1 ∨ brk es1 → Run X Ge He R es1 rest po) (hs : ∀ x, foldedSetIterable iter X.env x = pure x := by intro _; rfl) : Run X Ge He R es (.For tg iter body [] pos :: rest) po :=
  run_st (ps_for gd.pass gd.calm pI pG pS hs) (fun es1 => inv items.length es1 ∨ brk es1) (fun σ G H g S => hI He σ G H _ S g.s fun J G2 H2 g2 wl => by
    refine ⟨fun i m σ' H' => m = items.length - i ∧ i ≤ items.length ∧ At X.K Ge He G2 (inv i) σ' H', ⟨items.length, by omega, Nat.zero_le _, G2, es, Ex.refl _, g.trans g2, S.grow g2, h0⟩, ?_⟩
    rintro i m σ' H' ⟨rfl, hi, G', es1, a, b, S', q⟩
    have w := wl i G' H' a b.s
    by_cases hlt : i < items.length
    · obtain ⟨w1, w2⟩ := w.1 hlt
      refine .inr ⟨w1, fun σ3 H3 => i + 1 ≤ items.length ∧ At X.K Ge He G2 (inv (i + 1)) σ3 H3, fun σ3 H3 ⟨q1, q2⟩ => ⟨items.length - (i + 1), by omega, rfl, q1, q2⟩, fun x H3 y => ?_⟩
      obtain ⟨d, G3, e1, g3, t⟩ := w2 x H3 y
      obtain ⟨es2, hg, hb⟩ := turn i d es1 e1 q
      have gg := b.trans g3
      refine hg He σ' G3 H3 x _ (S'.grow g3) gg.s t fun σ4 _ S4 => ⟨fun pins s I => ?_⟩
      refine thn ((hb.run σ4 G3 H3 gg S4).go pins s I) fun f s1 z => ?_
      cases f with
      | next =>
        obtain ⟨σ5, H5, I5, q5⟩ := z
        exact ⟨σ5, H5, I5, hlt, q5.mono (a.trans g3.g) fun _ y => y⟩
      | cont =>
        obtain ⟨σ5, H5, I5, q5⟩ := z
        exact ⟨σ5, H5, I5, hlt, q5.mono (a.trans g3.g) fun _ y => y⟩
      | brk =>
        obtain ⟨σ5, H5, I5, q5⟩ := z
        exact ⟨σ5, H5, I5, q5.mono ((g2.g.trans a).trans g3.g) fun _ y => .inr y⟩
      | ret u => exact z
    · have e : i = items.length := by omega
      subst e
      exact .inl ⟨w.2 rfl, G', es1, g2.g.trans a, b, S', .inl q⟩) fun es1 q => fin es1 q
theorem r_while {c : Expr} (gd : Good X) (inv : Nat → List Sl → Prop) (brk : List Sl → Prop) (fi : List Sl → Prop) (m0 : Nat) (h0 : inv m0 es)
    (turn : ∀ m es1, inv m es1 → ∃ b, Tv X es1 c b ∧ (b = true → Run X Ge He R es1 body { nx := fun es2 => ∃ m', m' < m ∧ inv m' es2, ct := fun es2 => ∃ m', m' < m ∧ inv m' es2, bk := brk }) ∧ (b = false → fi es1))
    (fin : ∀ es1, fi es1 ∨ brk es1 → Run X Ge He R es1 rest po) : Run X Ge He R es (.While c body [] pos :: rest) po :=
  run_st (ps_while gd.pass pT pS) (fun es1 => fi es1 ∨ brk es1) (fun σ G H g S => by
    refine ⟨fun m σ' H' => At X.K Ge He G (inv m) σ' H', ⟨m0, G, es, Ex.refl _, g, S, h0⟩, ?_⟩
    rintro m σ' H' ⟨G', es1, a, b, S', q⟩
    obtain ⟨x, hx, h1, h2⟩ := turn m es1 q
    refine hx He σ' G' H' _ S' b.s fun G3 H3 g3 => ?_
    cases x with
    | true =>
      rw [if_pos rfl]
      refine ⟨At X.K Ge He G fun es2 => ∃ m', m' < m ∧ inv m' es2, fun σ4 H4 ⟨G4, es4, a4, b4, S4, m', hm, q4⟩ => ⟨m', hm, G4, es4, a4, b4, S4, q4⟩, ⟨fun pins s I => ?_⟩⟩
      refine thn (((h1 rfl).run σ' G3 H3 (b.trans g3) (S'.grow g3)).go pins s I) fun f s1 z => ?_
      cases f with
      | next =>
        obtain ⟨σ5, H5, I5, q5⟩ := z
        exact ⟨σ5, H5, I5, q5.mono (a.trans g3.g) fun _ y => y⟩
      | cont =>
        obtain ⟨σ5, H5, I5, q5⟩ := z
        exact ⟨σ5, H5, I5, q5.mono (a.trans g3.g) fun _ y => y⟩
      | brk =>
        obtain ⟨σ5, H5, I5, q5⟩ := z
        exact ⟨σ5, H5, I5, q5.mono (a.trans g3.g) fun _ y => .inr y⟩
      | ret u => exact z
    | false =>
      rw [if_neg Bool.false_ne_true]
      exact ⟨G3, es1, a.trans g3.g, b.trans g3, S'.grow g3, .inl (h2 rfl)⟩) fun es1 q => fin es1 q
end
end K9
namespace K9
open PySem PySem.Spec PyProof.Rows L2 Evl
/-! ### == of data -/
theorem plain_mem {ds : List PyData} (h : PyData.plainAll ds = true) : ∀ d ∈ ds, d.plain = true := by
  induction ds with
  | nil => intro d hd; cases hd
  | cons e ds ih =>
    intro d hd
    have h' : e.plain = true ∧ PyData.plainAll ds = true := by simpa [PyData.plainAll] using h
    rcases List.mem_cons.mp hd with rfl | hd
    · exact h'.1
    · exact ih h'.2 d hd
theorem dpAll_of {K : PySem.W.Frag} {G : Hp} : ∀ {vs : List V} {ds : List PyData}, vs.length = ds.length → (∀ (i : Nat) v d, vs[i]? = some v → ds[i]? = some d → Dp K G v d) → DpAll K G vs ds
  | [], [], _, _ => .nil
  | [], _ :: _, h, _ => by simp at h
  | _ :: _, [], h, _ => by simp at h
  | v :: vs, d :: ds, h, k => .cons (k 0 v d rfl rfl) (dpAll_of (by simpa using h) fun i u e a b => k (i + 1) u e (by simpa using a) (by simpa using b))
theorem Dt.dp {K : PySem.W.Frag} {G : Hp} {v : V} {d : PyData} (h : Dt K G v d) : d.plain = true → Dp K G v d := by
  induction h with
  | non => exact fun _ => .non
  | bl b => exact fun _ => .bl b
  | int i => exact fun _ => .int i
  | str x => exact fun _ => .str x
  | lst h l k ih => exact fun p => .lst (SqL.of h) (dpAll_of l fun i v d a b => ih i v d a b (plain_mem (by simpa [PyData.plain] using p) d (List.mem_of_getElem? b)))
  | tup h l k ih => exact fun p => .tup h (dpAll_of l fun i v d a b => ih i v d a b (plain_mem (by simpa [PyData.plain] using p) d (List.mem_of_getElem? b)))
  | scr h => exact fun p => nomatch p
theorem Da.dp {K : PySem.W.Frag} {G : Hp} {vs : List V} {ds : List PyData} (h : Da K G vs ds) (p : PyData.plainAll ds = true) : DpAll K G vs ds :=
  dpAll_of h.1 fun i v d a b => (h.2 i v d a b).dp (plain_mem p d (List.mem_of_getElem? b))
def rEqP (K : PySem.W.Frag) : R2 := fun x y H Q => ∃ d e, Dp K H x d ∧ Dp K H y e ∧ d.plain = true ∧ e.plain = true ∧ d.depth ≤ 64 ∧ Q (.bl (PyData.eqv d e)) H
def rNeP (K : PySem.W.Frag) : R2 := fun x y H Q => ∃ d e, Dp K H x d ∧ Dp K H y e ∧ d.plain = true ∧ e.plain = true ∧ d.depth ≤ 64 ∧ Q (.bl (!PyData.eqv d e)) H
theorem op_eqP {X : Cx} (hu : X.A.units + 64 < cLine) : OpR X (compareOp .Eq) (rEqP X.K) := by
  intro pins s σ H x y v u Q I rx ry h
  obtain ⟨d, e, hd, he, sd, se, dp, q⟩ := h
  obtain ⟨as, r1⟩ := Dp.reads I d x v hd rx
  obtain ⟨bs, r2⟩ := Dp.reads I e y u he ry
  exact SeqAt.eq_plain r1 r2 sd se (by omega) ⟨.bl _, H, I, rfl, q⟩
theorem op_neP {X : Cx} (hu : X.A.units + 64 < cLine) : OpR X (compareOp .NotEq) (rNeP X.K) := by
  intro pins s σ H x y v u Q I rx ry h
  obtain ⟨d, e, hd, he, sd, se, dp, q⟩ := h
  obtain ⟨as, r1⟩ := Dp.reads I d x v hd rx
  obtain ⟨bs, r2⟩ := Dp.reads I e y u he ry
  exact SeqAt.ne_plain r1 r2 sd se (by omega) ⟨.bl _, H, I, rfl, q⟩
theorem eqvAll_ints : ∀ xs ys : List Int, PyData.eqvAll (xs.map PyData.int) (ys.map PyData.int) = decide (xs = ys)
  | [], [] => rfl
  | [], y :: ys => rfl
  | x :: xs, [] => rfl
  | x :: xs, y :: ys => by
    show (PyData.eqv (.int x) (.int y) && PyData.eqvAll (xs.map PyData.int) (ys.map PyData.int)) = _
    rw [eqvAll_ints xs ys]
    simp only [PyData.eqv]
    by_cases h : x = y
    · subst h
      simp
    · have : ¬ (x :: xs = y :: ys) := fun e => h (List.cons.inj e).1
      rw [decide_eq_false this, beq_eq_false_iff_ne.mpr h, Bool.false_and]
theorem plainAll_ints : ∀ xs : List Int, PyData.plainAll (xs.map PyData.int) = true
  | [] => rfl
  | x :: xs => by
    show (PyData.plain (.int x) && PyData.plainAll (xs.map PyData.int)) = true
    rw [plainAll_ints xs] <;> rfl
theorem depthAll_ints : ∀ xs : List Int, PyData.depthAll (xs.map PyData.int) = 0
  | [] => rfl
  | x :: xs => by
    show max (PyData.depth (.int x)) (PyData.depthAll (xs.map PyData.int)) = 0
    rw [depthAll_ints xs] <;> rfl
theorem plainAll_of {ds : List PyData} (h : ∀ d ∈ ds, d.plain = true) : PyData.plainAll ds = true := by
  induction ds with
  | nil => rfl
  | cons d ds ih =>
    show (PyData.plain d && PyData.plainAll ds) = true
    rw [h d (List.mem_cons_self ..), ih fun e he => h e (List.mem_cons_of_mem _ he)] <;> rfl
theorem depthAll_of {n : Nat} {ds : List PyData} (h : ∀ d ∈ ds, d.depth ≤ n) : PyData.depthAll ds ≤ n := by
  induction ds with
  | nil => exact Nat.zero_le _
  | cons d ds ih =>
    show max (PyData.depth d) (PyData.depthAll ds) ≤ n
    have h1 := h d (List.mem_cons_self ..)
    have h2 := ih fun e he => h e (List.mem_cons_of_mem _ he)
    omega
section
variable {X : Cx} {es : List Sl} {e a b c : Expr} {pos p p2 : Pos} {d d1 d2 : PyData} {ds xs ys : List PyData}
theorem lsv_dp {G H : Hp} {v : V} (E : Ex G H) (h : lsv X.K ds v G H) (p : PyData.plainAll ds = true) : Dp X.K H v (.list ds) := by
  obtain ⟨q, vs, rfl, h1, t⟩ := h
  exact .lst (SqL.of h1) ((t.mono E).dp p)
theorem t_eqL {xs ys : List Int} (gd : Good X) (ha : Lv X es a (xs.map PyData.int)) (hb : Lv X es b (ys.map PyData.int)) : Tv X es (.Compare a [.Eq] [b] pos) (decide (xs = ys)) :=
  ot_cmp (op_eqP gd.hu) mono_lsv ha hb (nomark _) fun G H v u Q E h1 h2 k => ⟨_, _, lsv_dp E h1 (plainAll_ints _), lsv_dp E h2 (plainAll_ints _), plainAll_ints _, plainAll_ints _, by show PyData.depthAll _ + 1 ≤ 64; rw [depthAll_ints]; decide, by
    show Q (.bl (PyData.eqvAll (xs.map PyData.int) (ys.map PyData.int))) H
    rw [eqvAll_ints]
    exact k⟩
theorem v_eqL {xs ys : List Int} (gd : Good X) (ha : Lv X es a (xs.map PyData.int)) (hb : Lv X es b (ys.map PyData.int)) : Ev X es (.Compare a [.Eq] [b] pos) (.bool (decide (xs = ys))) :=
  o_cmp (op_eqP gd.hu) mono_lsv ha hb (nomark _) fun G H v u Q E h1 h2 k => ⟨_, _, lsv_dp E h1 (plainAll_ints _), lsv_dp E h2 (plainAll_ints _), plainAll_ints _, plainAll_ints _, by show PyData.depthAll _ + 1 ≤ 64; rw [depthAll_ints]; decide, by
    show Q (.bl (PyData.eqvAll (xs.map PyData.int) (ys.map PyData.int))) H
    rw [eqvAll_ints]
    exact k _ G H (Grow.refl E) (.bl _)⟩
theorem t_neL {xs ys : List Int} (gd : Good X) (ha : Lv X es a (xs.map PyData.int)) (hb : Lv X es b (ys.map PyData.int)) : Tv X es (.Compare a [.NotEq] [b] pos) (!decide (xs = ys)) :=
  ot_cmp (op_neP gd.hu) mono_lsv ha hb (nomark _) fun G H v u Q E h1 h2 k => ⟨_, _, lsv_dp E h1 (plainAll_ints _), lsv_dp E h2 (plainAll_ints _), plainAll_ints _, plainAll_ints _, by show PyData.depthAll _ + 1 ≤ 64; rw [depthAll_ints]; decide, by
    show Q (.bl (!PyData.eqvAll (xs.map PyData.int) (ys.map PyData.int))) H
    rw [eqvAll_ints]
    exact k⟩
theorem eqvAll_nil (xs : List PyData) : PyData.eqvAll xs [] = xs.isEmpty := by
  cases xs <;> rfl
/-- a list against the empty one -/
theorem t_eqNil (gd : Good X) (ha : Lv X es a ds) (hb : Lv X es b []) (hp : PyData.plainAll ds = true) (hd : PyData.depthAll ds ≤ 60) : Tv X es (.Compare a [.Eq] [b] pos) ds.isEmpty :=
  ot_cmp (op_eqP gd.hu) mono_lsv ha hb (nomark _) fun G H v u Q E h1 h2 k => ⟨_, _, lsv_dp E h1 hp, lsv_dp E h2 rfl, hp, rfl, by show PyData.depthAll _ + 1 ≤ 64; omega, by
    show Q (.bl (PyData.eqvAll ds [])) H
    rw [eqvAll_nil]
    exact k⟩
theorem t_neNil (gd : Good X) (ha : Lv X es a ds) (hb : Lv X es b []) (hp : PyData.plainAll ds = true) (hd : PyData.depthAll ds ≤ 60) : Tv X es (.Compare a [.NotEq] [b] pos) (!ds.isEmpty) :=
  ot_cmp (op_neP gd.hu) mono_lsv ha hb (nomark _) fun G H v u Q E h1 h2 k => ⟨_, _, lsv_dp E h1 hp, lsv_dp E h2 rfl, hp, rfl, by show PyData.depthAll _ + 1 ≤ 64; omega, by
    show Q (.bl (!PyData.eqvAll ds [])) H
    rw [eqvAll_nil]
    exact k⟩
theorem v_eqD (gd : Good X) (ha : Ev X es a d1) (hb : Ev X es b d2) (hp : d1.plain = true) (hp2 : d2.plain = true) (hd : d1.depth ≤ 64) : Ev X es (.Compare a [.Eq] [b] pos) (.bool (PyData.eqv d1 d2)) :=
  o_cmp (op_eqP gd.hu) mono_dat ha hb (nomark _) fun G H v u Q E h1 h2 k => ⟨d1, d2, (h1.mono E).dp hp, (h2.mono E).dp hp2, hp, hp2, hd, k _ G H (Grow.refl E) (.bl _)⟩
/-! ### in -/
theorem inV_strs (x : Str) : ∀ xs : List Str, inV (.str x) (xs.map V.str) = decide (x ∈ xs)
  | [] => rfl
  | y :: ys => by
    show (eqV (.str y) (.str x) || inV (.str x) (ys.map V.str)) = _
    rw [inV_strs x ys]
    show ((y == x) || decide (x ∈ ys)) = _
    by_cases h : y = x
    · subst h
      simp
    · have h' : ¬ x = y := fun e => h e.symm
      rw [beq_eq_false_iff_ne.mpr h, Bool.false_or]
      by_cases h2 : x ∈ ys
      · rw [decide_eq_true h2, decide_eq_true (List.mem_cons_of_mem _ h2)]
      · rw [decide_eq_false h2, decide_eq_false]
        intro hm
        rcases List.mem_cons.mp hm with e | e
        · exact h' e
        · exact h2 e
theorem flat_strs : ∀ xs : List Str, (xs.map V.str).all flatV = true
  | [] => rfl
  | y :: ys => by
    show (flatV (.str y) && (ys.map V.str).all flatV) = true
    rw [flat_strs ys] <;> rfl
theorem t_in {x : Str} {xs : List Str} (ha : Ev X es a (.str x)) (hb : Lv X es b (xs.map PyData.str)) (hm : behindInMarks .In b = false := by rfl) : Tv X es (.Compare a [.In] [b] pos) (decide (x ∈ xs)) :=
  ot_cmp op_in_seq mono_dat ha hb hm fun G H v u Q E h1 ⟨q, vs, e1, k1, t1⟩ k => by
    rw [Dt.str_inv h1]
    have ev := Da.strs t1
    subst ev
    refine ⟨q, _, e1, .inl (SqL.of k1), rfl, flat_strs xs, ?_⟩
    rw [if_neg Bool.false_ne_true, inV_strs]
    exact k
theorem t_notIn {x : Str} {xs : List Str} (ha : Ev X es a (.str x)) (hb : Lv X es b (xs.map PyData.str)) (hm : behindInMarks .NotIn b = false := by rfl) : Tv X es (.Compare a [.NotIn] [b] pos) (!decide (x ∈ xs)) :=
  ot_cmp op_notIn_seq mono_dat ha hb hm fun G H v u Q E h1 ⟨q, vs, e1, k1, t1⟩ k => by
    rw [Dt.str_inv h1]
    have ev := Da.strs t1
    subst ev
    refine ⟨q, _, e1, .inl (SqL.of k1), rfl, flat_strs xs, ?_⟩
    rw [if_pos rfl, inV_strs]
    exact k
theorem t_notInT {x : Str} {xs : List Str} (ha : Ev X es a (.str x)) (hb : Ev X es b (.tuple (xs.map PyData.str))) (hm : behindInMarks .NotIn b = false := by rfl) : Tv X es (.Compare a [.NotIn] [b] pos) (!decide (x ∈ xs)) :=
  ot_cmp op_notIn_seq mono_dat ha hb hm fun G H v u Q E h1 h2 k => by
    rw [Dt.str_inv h1]
    obtain ⟨q, vs, e1, k1, t1⟩ := Dt.tuple_inv h2
    have ev := Da.strs t1
    subst ev
    refine ⟨q, _, e1, .inr (ex_t E k1), rfl, flat_strs xs, ?_⟩
    rw [if_pos rfl, inV_strs]
    exact k
theorem v_gtup {x : Str} {ns : List Int} (hm : ∃ a, X.mg x = some (.ref a) ∧ ∀ G, SqT X.K G a (ns.map V.int)) (hg : Gl X x := by rfl) (hd : (x == ("__debug__" : Str)) = false := by decide) : Ev X es (.Name x pos) (.tuple (ns.map PyData.int)) := by
  obtain ⟨a, hm, h⟩ := hm
  exact v_glob (v := .ref a) hm rfl (fun G => .tup (h G) (da_ints (K := X.K) (G := G) ns).1 (da_ints (K := X.K) (G := G) ns).2) hg hd
theorem tyx_tup {K : PySem.W.Frag} {H : Hp} {a : Addr} {xs : List V} (h : SqT K H a xs) : TyX K H (.ref a) (.type "tuple") := by
  rcases h with (h | ⟨o, h⟩) | ⟨o, its, n, hk, hc, _⟩
  · exact .base (.tup h)
  · exact .fTuple h
  · exact .kTuple hk hc
theorem v_isTup (hm : X.mg "isinstance" = none) (hm2 : X.mg "tuple" = none) (ha : Ev X es e (.tuple ds)) (hg : Gl X "isinstance" := by rfl) (hg2 : Gl X "tuple" := by rfl)
    (he : starEach [e, .Name "tuple" p2] X.env = (false, eval e X.env) :: starEach [.Name "tuple" p2] X.env := by rfl) (he2 : starEach [.Name "tuple" p2] X.env = (false, eval (.Name "tuple" p2) X.env) :: starEach [] X.env := by rfl) (hpl : (backTo pos (starEach [.Name "tuple" p2] X.env)).any (·.1) = false := by rfl) :
    Ev X es (.Call (.Name "isinstance" p) [e, .Name "tuple" p2] [] pos) (.bool true) :=
  ev_of (pe_callB call_isi hg hm (by decide +kernel) (pa_cons pE (pa_cons (pe_bltn (v := .ty "tuple") hg2 hm2 (by decide +kernel) rfl) pa_nil he2) he) (by decide) (by decide) he hpl) fun He σ G H Q S E k => ha He σ G H _ S E fun v G1 H1 g1 o1 => by
    obtain ⟨q, vs, e1, h1, t1⟩ := Dt.tuple_inv o1
    exact ⟨v, .ty "tuple", .type "tuple", .type "tuple", true, rfl, .ty _, by rw [e1]; exact tyx_tup (ex_t g1.s h1), kit_ty (by decide +kernel), k _ G1 H1 g1 (.bl true)⟩
/-! ### comprehensions -/
def tTs (X : Cx) : List Expr → TT
  | [] => tYes
  | [c] => tT X c
  | _ => fun _ _ _ => False
theorem pTs {ifs : List Expr} : PTs X ifs (tTs X ifs) := by
  match ifs with
  | [] => exact pts_nil
  | [c] => exact pts_one pT
  | _ :: _ :: _ => exact ⟨fun _ _ _ _ _ _ h => h.elim⟩
def Sv (X : Cx) (es : List Sl) (ifs : List Expr) (b : Bool) : Prop :=
  ∀ He σ G H (Q : Bool → Hp → Prop), Sls X.K He G H σ es → Ex G H → (∀ G2 H2, Grow G H G2 H2 → Q b H2) → tTs X ifs σ H Q
theorem s_nil : Sv X es [] true := fun He σ G H Q S E k => k G H (Grow.refl E)
theorem s_one {b : Bool} (h : Tv X es c b) : Sv X es [c] b := h
def wipeS (es : List Sl) : List Nat → List Sl
  | [] => es
  | v :: vs => (wipeS es vs).set v .emp
theorem Sls.wipe {K : PySem.W.Frag} {He G H : Hp} {σ : L2.St} (S : Sls K He G H σ es) : ∀ vs : List Nat, Sls K He G H (L2.wipe σ vs) (wipeS es vs)
  | [] => S
  | v :: vs => by
    have S' := Sls.wipe S vs
    refine ⟨by show ((L2.wipe σ vs).set v none).length = ((wipeS es vs).set v .emp).length; simp [S'.len], fun j o e a b => ?_, fun j k q ds ds' hjk a b c => ?_⟩
    · rcases get_set b with ⟨_, rfl, _⟩ | ⟨hne, b'⟩
      · trivial
      · rcases get_set a with ⟨e, _, _⟩ | ⟨_, a'⟩
        · exact absurd e hne
        · exact S'.ok j o e a' b'
    · rcases get_set a with ⟨_, e, _⟩ | ⟨h1, a'⟩
      · cases e
      rcases get_set b with ⟨_, e, _⟩ | ⟨h2, b'⟩
      · cases e
      rcases get_set c with ⟨e, _, _⟩ | ⟨_, c'⟩
      · exact absurd e h1
      intro z
      rcases get_set z with ⟨e, _, _⟩ | ⟨_, z'⟩
      · exact absurd e h2
      · exact S'.ne j k q ds ds' hjk a' b' c' z'
variable {tg iter elt : Expr} {ifs : List Expr} {items : List PyData} {scope : Scope} {own : List (Str × Nat)}
abbrev Bk (X : Cx) (scope : Scope) (s : Shared) (H : Hp) (C : Addr) (cl : List (Str × Addr)) (fp : List Addr) : Cx := X.blk s H scope (compEnvC scope cl C X.env) fp
def gB (X : Cx) (scope : Scope) (tg : Expr) : TG := fun v σ H Q => ∀ s0 H0 C cl fp, tG (Bk X scope s0 H0 C cl fp) tg v σ H Q
def tB (X : Cx) (scope : Scope) (ifs : List Expr) : TT := fun σ H Q => ∀ s0 H0 C cl fp, tTs (Bk X scope s0 H0 C cl fp) ifs σ H Q
def eB (X : Cx) (scope : Scope) (e : Expr) : TE := fun σ H Q => ∀ s0 H0 C cl fp, tE (Bk X scope s0 H0 C cl fp) e σ H Q
theorem take_snoc {α : Type} {l : List α} {i : Nat} {x : α} (h : l[i]? = some x) : l.take (i + 1) = l.take i ++ [x] := by
  rw [List.take_add_one, h] <;> rfl
theorem wipe_wipe {σ : L2.St} (vs : List Nat) : ∀ {us : List Nat}, (∀ j ∈ us, j ∈ vs) → L2.wipe (L2.wipe σ us) vs = L2.wipe σ vs
  | [], _ => rfl
  | u :: us, h => by
    show L2.wipe ((L2.wipe σ us).set u none) vs = _
    rw [wipe_set (h u (List.mem_cons_self ..))]
    exact wipe_wipe vs fun j hj => h j (List.mem_cons_of_mem _ hj)
/-- what a comprehension walks: nothing that stands is changed meanwhile -/
def WlC (K : PySem.W.Frag) (J : It) (G0 H0 : Hp) (items : List PyData) : Prop :=
  ∀ (i : Nat) G H, Ex G0 G → Ex G H → Ex H0 H → (i < items.length → J.go i H ∧ ∀ x H', J.yld i H x H' → ∃ d G', items[i]? = some d ∧ Grow G H G' H' ∧ Dt K G' x d) ∧ (i = items.length → J.stop i H)
def IvC (X : Cx) (es : List Sl) (tg iter : Expr) (items : List PyData) : Prop :=
  ∀ He σ G H (R : It → Hp → Prop), Sls X.K He G H σ es → Ex G H → (∀ J G2 H2, Grow G H G2 H2 → WlC X.K J G2 H2 items → R J H2) → tI X tg iter σ H R
theorem Iv.comp (h : Iv X es tg iter items) : IvC X es tg iter items := fun He σ G H R S E k => h He σ G H R S E fun J G2 H2 g wl => k J G2 H2 g fun i G H a b _ => wl i G H a b
theorem i_lv (ha : Lv X es iter items) : IvC X es tg iter items := fun He σ G H R S E k => ⟨fun pins s I =>
  (pi_list pE).run pins s σ H R I (ha He σ G H _ S E fun v G2 H2 g2 ⟨a, vs, e1, h1, t1⟩ => ⟨a, e1, ⟨vs, SqL.of h1⟩, k _ G2 H2 g2 fun i G H e e' e0 => ⟨fun hi => by
    have hi' : i < vs.length := by rw [t1.1]; exact hi
    have sq : SqL X.K H a vs := SqL.of (e0 _ _ h1)
    refine ⟨⟨vs, vs[i], sq, List.getElem?_eq_getElem hi'⟩, fun x H' ⟨e2, hx⟩ => ?_⟩
    subst e2
    exact ⟨items[i], G, List.getElem?_eq_getElem hi, Grow.refl e', (t1.2 i x _ (hx vs sq) (List.getElem?_eq_getElem hi)).mono e⟩, fun hi => ⟨vs, SqL.of (e0 _ _ h1), by rw [t1.1, hi]; exact Nat.le_refl _⟩⟩⟩)⟩
theorem lc_read (vs : List Nat) (T : PyData → List Sl) (f : PyData → Bool) (g : PyData → PyData) (hI : IvC X es tg iter items)
    (hg : ∀ s0 H0 C cl fp d, d ∈ items → Gv (Bk X scope s0 H0 C cl fp) tg d (wipeS es vs) (T d) vs)
    (ht : ∀ s0 H0 C cl fp d, d ∈ items → Sv (Bk X scope s0 H0 C cl fp) (T d) ifs (f d))
    (he : ∀ s0 H0 C cl fp d, d ∈ items → f d = true → Ev (Bk X scope s0 H0 C cl fp) (T d) elt (g d)) (hl : items.length ≤ 100000)
    (He : Hp) (σ : L2.St) (G H : Hp) (Q : VK) (S : Sls X.K He G H σ es) (E : Ex G H) (k : ∀ v G2 H2, Grow G H G2 H2 → nwl X.K ((items.filter f).map g) H v G2 H2 → Q v H2) :
    tLc (tI X tg iter) (gB X scope tg) (tB X scope ifs) (eB X scope elt) vs σ H Q := by
  refine hI He σ G H _ S E fun J G1 H1 g1 wl D hD => ?_
  have S1 := (S.grow g1).wipe vs
  have G1D : G1 D = none := ex_none g1.s hD
  refine ⟨fun i m H' => m = items.length - i ∧ i ≤ items.length ∧ ∃ G' acc, Grow G1 H1 G' H' ∧ G' D = none ∧ H' D = some (.lst acc) ∧ Da X.K G' acc (((items.take i).filter f).map g), ⟨items.length, by omega, Nat.zero_le _, G1, [], Grow.hid g1.s hD, G1D, upd_same, .nil⟩, ?_⟩
  rintro i m H' ⟨rfl, hi, G', acc, gr, hG', hH', t⟩
  have w := wl i G' H' gr.g gr.s gr.h
  by_cases hlt : i < items.length
  · obtain ⟨w1, w2⟩ := w.1 hlt
    refine .inr ⟨w1, fun H3 => i + 1 ≤ items.length ∧ ∃ G' acc, Grow G1 H1 G' H3 ∧ G' D = none ∧ H3 D = some (.lst acc) ∧ Da X.K G' acc (((items.take (i + 1)).filter f).map g), fun H3 ⟨q1, q2⟩ => ⟨items.length - (i + 1), by omega, rfl, q1, q2⟩, fun x H3 y => ?_⟩
    obtain ⟨d, G3, e1, g3, td⟩ := w2 x H3 y
    have hd : d ∈ items := List.mem_of_getElem? e1
    have gg := gr.trans g3
    have keepD : ∀ {Ga Ha Gb Hb : Hp}, Grow Ga Ha Gb Hb → Ga D = none → Ha D = some (.lst acc) → Gb D = none := fun {Ga Ha Gb Hb} q n1 n2 => by
      cases z : Gb D with
      | none => rfl
      | some u =>
        have := q.n D n1 (by rw [z]; simp)
        rw [n2] at this
        cases this
    intro s0 H0 C cl fp
    refine hg s0 H0 C cl fp d hd He _ G3 H3 x _ (S1.grow gg) gg.s td fun σ4 hw S4 => ⟨hw.trans (wipe_wipe vs (fun _ z => z)), ?_⟩
    intro s0 H0 C cl fp
    refine ht s0 H0 C cl fp d hd He σ4 G3 H3 _ S4 gg.s fun G5 H5 g5 => ?_
    have step := take_snoc e1
    cases hf : f d with
    | false =>
      rw [if_neg Bool.false_ne_true]
      refine ⟨hlt, G5, acc, gg.trans g5, keepD (g3.trans g5) hG' hH', (g3.trans g5).h _ _ hH', ?_⟩
      rw [step, List.filter_append, List.map_append, List.filter_cons, if_neg (by rw [hf]; decide)]
      show Da X.K G5 acc (_ ++ [])
      rw [List.append_nil]
      exact t.mono (g3.g.trans g5.g)
    | true =>
      rw [if_pos rfl]
      intro s0 H0 C cl fp
      refine he s0 H0 C cl fp d hd hf He σ4 G5 H5 _ (S4.grow g5) g5.s fun u G6 H6 g6 o6 => ?_
      have g36 := (g3.trans g5).trans g6
      have hl' : acc.length < sizeLine := by
        rw [t.1, List.length_map]
        have h1 := List.length_filter_le f (items.take i)
        have h2 : (items.take i).length ≤ i := by rw [List.length_take]; omega
        exact sz_lt (by omega)
      refine ⟨acc, g36.h _ _ hH', hl', hlt, G6, acc ++ [u], (gr.trans g36).wr hD (keepD g36 hG' hH'), keepD g36 hG' hH', upd_same, ?_⟩
      rw [step, List.filter_append, List.map_append, List.filter_cons, if_pos hf]
      exact (t.mono g36.g).snoc o6
  · have e : i = items.length := by omega
    subst e
    rw [List.take_length] at t
    exact .inl ⟨w.2 rfl, k _ G' H' (g1.trans gr) ⟨D, acc, rfl, ex_none g1.h hD, hG', hH', t⟩⟩
theorem n_lcC (own : List (Str × Nat)) (gd : Good X) (T : PyData → List Sl) (f : PyData → Bool) (g : PyData → PyData) (hI : IvC X es tg iter items) (ok : BlkOk X.N X.env.scope scope own)
    (hg : ∀ s0 H0 C cl fp d, d ∈ items → Gv (Bk X scope s0 H0 C cl fp) tg d (wipeS es (own.map (·.2))) (T d) (own.map (·.2)))
    (ht : ∀ s0 H0 C cl fp d, d ∈ items → Sv (Bk X scope s0 H0 C cl fp) (T d) ifs (f d))
    (he : ∀ s0 H0 C cl fp d, d ∈ items → f d = true → Ev (Bk X scope s0 H0 C cl fp) (T d) elt (g d)) (hl : items.length ≤ 100000) (hs : ∀ x, foldedSetIterable iter X.env x = pure x := by intro _; rfl) :
    Nv X es (.ListComp elt [⟨tg, iter, ifs, 0⟩] scope pos) ((items.filter f).map g) :=
  ev_of (pe_lc (own := own) gd.calm gd.nd pI ok (g := gB X scope tg) (tt := tB X scope ifs) (te := eB X scope elt)
    (fun s0 H0 C cl fp => ⟨fun pins s σ H v u Q I r h => (h s0 H0 C cl fp).go pins s u I r⟩)
    (fun s0 H0 C cl fp => ⟨fun pins s σ H Q I h => pTs.run pins s σ H Q I (h s0 H0 C cl fp)⟩)
    (fun s0 H0 C cl fp => ⟨fun pins s σ H Q I h => (h s0 H0 C cl fp).go pins s I⟩) hs) fun He σ G H Q S E k => lc_read _ T f g hI hg ht he hl He σ G H Q S E k
theorem n_lc (own : List (Str × Nat)) (gd : Good X) (T : PyData → List Sl) (f : PyData → Bool) (g : PyData → PyData) (hI : Iv X es tg iter items) (ok : BlkOk X.N X.env.scope scope own)
    (hg : ∀ s0 H0 C cl fp d, d ∈ items → Gv (Bk X scope s0 H0 C cl fp) tg d (wipeS es (own.map (·.2))) (T d) (own.map (·.2)))
    (ht : ∀ s0 H0 C cl fp d, d ∈ items → Sv (Bk X scope s0 H0 C cl fp) (T d) ifs (f d))
    (he : ∀ s0 H0 C cl fp d, d ∈ items → f d = true → Ev (Bk X scope s0 H0 C cl fp) (T d) elt (g d)) (hl : items.length ≤ 100000) (hs : ∀ x, foldedSetIterable iter X.env x = pure x := by intro _; rfl) :
    Nv X es (.ListComp elt [⟨tg, iter, ifs, 0⟩] scope pos) ((items.filter f).map g) :=
  ev_of (pe_lc (own := own) gd.calm gd.nd pI ok (g := gB X scope tg) (tt := tB X scope ifs) (te := eB X scope elt)
    (fun s0 H0 C cl fp => ⟨fun pins s σ H v u Q I r h => (h s0 H0 C cl fp).go pins s u I r⟩)
    (fun s0 H0 C cl fp => ⟨fun pins s σ H Q I h => pTs.run pins s σ H Q I (h s0 H0 C cl fp)⟩)
    (fun s0 H0 C cl fp => ⟨fun pins s σ H Q I h => (h s0 H0 C cl fp).go pins s I⟩) hs) fun He σ G H Q S E k => lc_read _ T f g hI.comp hg ht he hl He σ G H Q S E k
theorem r_lc {Ge He : Hp} {R : VK} {rest : List Stmt} {po : Po} (i : Nat) {y : Str} {py spos : Pos} (own : List (Str × Nat)) (gd : Good X) (T : PyData → List Sl) (f : PyData → Bool) (g : PyData → PyData) (hI : Iv X es tg iter items) (ok : BlkOk X.N X.env.scope scope own)
    (hg : ∀ s0 H0 C cl fp d, d ∈ items → Gv (Bk X scope s0 H0 C cl fp) tg d (wipeS es (own.map (·.2))) (T d) (own.map (·.2)))
    (ht : ∀ s0 H0 C cl fp d, d ∈ items → Sv (Bk X scope s0 H0 C cl fp) (T d) ifs (f d))
    (he : ∀ s0 H0 C cl fp d, d ∈ items → f d = true → Ev (Bk X scope s0 H0 C cl fp) (T d) elt (g d)) (hl : items.length ≤ 100000)
    (hk : Run X Ge He R (es.set i (.pur (.list ((items.filter f).map g)))) rest po)
    (hy : X.N[i]? = some y := by rfl) (hyl : X.env.scope.names.lookup y = some .local := by rfl)
    (hsw : swapsWith (.ListComp elt [⟨tg, iter, ifs, 0⟩] scope pos) (some (.Name y py)) spos.line X.env = pure true := by exact sw_true rfl rfl rfl (by decide +kernel)) (hs : ∀ x, foldedSetIterable iter X.env x = pure x := by intro _; rfl) :
    Run X Ge He R es (.Assign [.Name y py] (.ListComp elt [⟨tg, iter, ifs, 0⟩] scope pos) spos :: rest) po :=
  run_st (ps_setLc (own := own) gd.calm gd.nd hy hyl hsw pI ok (g := gB X scope tg) (tt := tB X scope ifs) (te := eB X scope elt)
    (fun s0 H0 C cl fp => ⟨fun pins s σ H v u Q I r h => (h s0 H0 C cl fp).go pins s u I r⟩)
    (fun s0 H0 C cl fp => ⟨fun pins s σ H Q I h => pTs.run pins s σ H Q I (h s0 H0 C cl fp)⟩)
    (fun s0 H0 C cl fp => ⟨fun pins s σ H Q I h => (h s0 H0 C cl fp).go pins s I⟩) hs) (· = es.set i (.pur (.list ((items.filter f).map g))))
    (fun σ G H gr S => lc_read _ T f g hI.comp hg ht he hl He σ G H _ S gr.s fun v G2 H2 g2 ⟨q, vs, e1, h0, h1, h2, t⟩ => by
      subst e1
      have g3 := g2.tell h0 h2
      exact ⟨_, _, g3.g, gr.trans g3, (S.grow g3).set (.lst upd_same t.1 (t.mono (Ex.new h1)).2), rfl⟩) fun _ z => z ▸ hk
/-! ### calls -/
def spD (K : PySem.W.Frag) (pre : List PyData → PyData → Prop) : Sp := fun vs H Q _ => ∃ G ds d, Ex G H ∧ Da K G vs ds ∧ pre ds d ∧ ∀ v G2 H2, Grow G H G2 H2 → Dt K G2 v d → Q v H2
structure Cal (P : Program) (w : World) (K : PySem.W.Frag) (mg : Str → Option Value) (base : Heap) (k : Nat) (x : Str) (ps : List Str) (sp : Sp) : Prop where
  ex : ∃ f fd, FnOk P w K mg base CX0 k f fd ps sp ∧ mg x = some (.ref f) ∧ PySem.W.keepIn K (.ref f) = true ∧ Binds K fd ps []
theorem v_call {k : Nat} {x : Str} {ps : List Str} {pre : List PyData → PyData → Prop} {as : List Expr} (C : Cal X.prog X.w X.K X.mg X.base k x ps (spD X.K pre)) (hr : Room k X.A) (ha : Av X es (e :: as) ds) (h : pre ds d) (hg : Gl X x := by rfl)
    (hdb : (x == ("__debug__" : Str)) = false := by decide) (he : starEach (e :: as) X.env = (false, eval e X.env) :: starEach as X.env := by rfl) (hpl : (backTo pos (starEach as X.env)).any (·.1) = false := by rfl) : Ev X es (.Call (.Name x p) (e :: as) [] pos) d := by
  obtain ⟨f, fd, F, hm, hk, hb⟩ := C.ex
  exact ev_of (pe_call F hr hg hm hk hb .nil pass0 pA hdb he hpl) fun He σ G H Q S E k => ha He σ G H _ S E fun vs G1 H1 g1 o1 => by
    rw [List.append_nil]
    exact ⟨G1, ds, d, g1.s, o1, h, fun v G2 H2 g2 t => k v G2 H2 (g1.trans g2) t⟩
end
/-- a def's promise by the run of its body -/
theorem okD {P : Program} {w : World} {K : PySem.W.Frag} {mg : Str → Option Value} {base : Heap} {x qual : Str} {st : Stmt} {f : Addr} {fd : FuncData} {N ps : List Str} {k : Nat} {pre : List PyData → PyData → Prop} (F : Fun K x qual st f fd) (S : FnScope N ps (defScope st))
    (len : ∀ ds d, pre ds d → ds.length = ps.length) (hNl : ps.length ≤ N.length)
    (body : ∀ (cdv : Value) (A : Around) (outer : List Env) (s : Shared) (H : Hp) (E : XK), Room k (A.deeper (envOfC qual (defScope st) s.heap.objs.size f cdv)) → Good (cxOf CX0 P w K mg base N qual (defScope st) f cdv A outer s H E).nox →
      ∀ ds d, pre ds d → ∀ (Ge He : Hp) (Q : VK), (∀ v G2 H2, Grow Ge He G2 H2 → Dt K G2 v d → Q v H2) → Run (cxOf CX0 P w K mg base N qual (defScope st) f cdv A outer s H E).nox Ge He Q (ds.map .pur ++ List.replicate (N.length - ds.length) .emp) (defBody st) { nx := fun _ => False }) :
    FnOk P w K mg base CX0 (k + 1) f fd ps (spD K pre) := by
  refine F.ok S (fun vs H Q E h => ?_) (fun cdv A outer s H vs Q E hr h => ?_)
  · obtain ⟨G, ds, d, _, D, hp, _⟩ := h
    rw [D.1]
    exact len ds d hp
  · obtain ⟨G, ds, d, ex, D, hp, kk⟩ := h
    have gd : Good (cxOf CX0 P w K mg base N qual (defScope st) f cdv A outer s H E).nox := ⟨S.nd, rfl, PassesOwn.never, hr.units⟩
    have R := body cdv A outer s H E hr gd ds d hp G H Q kk
    refine ⟨_, pS, ?_⟩
    have hlen : vs.length ≤ N.length := by rw [D.1, len ds d hp]; exact hNl
    have Sl0 : Sls K H G H (L2.start N vs) (ds.map .pur ++ List.replicate (N.length - ds.length) .emp) := by
      unfold L2.start
      refine ⟨by simp [D.1], fun i o e a b => ?_, fun i j q d1 d2 hij a b c => ?_⟩
      · by_cases hi : i < ds.length
        · rw [List.getElem?_append_left (by simpa using hi), List.getElem?_map] at b
          rw [List.getElem?_append_left (by simpa [D.1] using hi), List.getElem?_map] at a
          cases q : ds[i]? with
          | none => rw [q] at b; cases b
          | some d0 =>
            rw [q] at b
            cases b
            obtain ⟨v, hv, t⟩ := D.at q
            rw [hv] at a
            cases a
            exact ⟨v, rfl, t⟩
        · rw [List.getElem?_append_right (by simpa using hi), List.getElem?_replicate] at b
          split at b
          · cases b
            trivial
          · cases b
      · exfalso
        by_cases hi : i < ds.length
        · rw [List.getElem?_append_left (by simpa using hi), List.getElem?_map] at a
          cases q : ds[i]? with
          | none => rw [q] at a; cases a
          | some d0 => rw [q] at a; cases a
        · rw [List.getElem?_append_right (by simpa using hi), List.getElem?_replicate] at a
          split at a <;> cases a
    have R2 := R.run (L2.start N vs) G H (Grow.refl ex) Sl0
    refine ⟨fun pins s' I => ?_⟩
    refine thn (R2.go pins s' I) fun fl s2 q => ?_
    cases fl with
    | next =>
      obtain ⟨σ', H', I', G', es', _, _, _, m⟩ := q
      exact m.elim
    | brk =>
      obtain ⟨σ', H', I', G', es', _, _, _, m⟩ := q
      exact m.elim
    | cont =>
      obtain ⟨σ', H', I', G', es', _, _, _, m⟩ := q
      exact m.elim
    | ret u => exact q
end K9
namespace K9
open PySem PySem.Spec PyProof.Rows L2 Evl
/-! ### the text by places -/
def topS (i : Nat) : Stmt := PySem.Challenge.pw_stillroom_k19_whole_nothing_twice.main.body.getD i (.Pass ⟨0, 0, 0, 0⟩)
abbrev sSpend : Stmt := topS 4
abbrev sStands : Stmt := topS 11
abbrev sLow : Stmt := topS 12
abbrev sLast : Stmt := topS 13
abbrev sPart : Stmt := topS 14
abbrev sParts : Stmt := topS 15
abbrev sPlain : Stmt := topS 16
abbrev sToLow : Stmt := topS 22
abbrev sHead : Stmt := topS 23
abbrev sDir : Stmt := topS 24
abbrev sOver : Stmt := topS 25
abbrev sSearch : Stmt := topS 26
abbrev sOpen : Stmt := topS 27
abbrev sWrite : Stmt := topS 28
abbrev sCell : Stmt := topS 30
abbrev sRow : Stmt := topS 32
abbrev sLLow : Stmt := topS 34
abbrev sLNum : Stmt := topS 35
abbrev sCodes : Stmt := topS 36
abbrev sMHead : Stmt := topS 37
abbrev sMRec : Stmt := topS 38
abbrev sMName : Stmt := topS 39
abbrev sCrate : Stmt := topS 40
abbrev sSpoilt : Stmt := topS 41
abbrev sLStands : Stmt := topS 42
abbrev sLaw : Stmt := topS 43
theorem scSpend : FnScope ["left", "cost"] ["left", "cost"] (defScope sSpend) := ⟨rfl, rfl, rfl, by decide +kernel, rfl, by decide +kernel, by decide +kernel⟩
theorem scStands : FnScope ["data", "sign", "at"] ["data", "sign", "at"] (defScope sStands) := ⟨rfl, rfl, rfl, by decide +kernel, rfl, by decide +kernel, by decide +kernel⟩
theorem scLow : FnScope ["data", "number", "byte"] ["data"] (defScope sLow) := ⟨rfl, rfl, rfl, by decide +kernel, rfl, by decide +kernel, by decide +kernel⟩
theorem scToLow : FnScope ["number", "size", "data", "_"] ["number", "size"] (defScope sToLow) := ⟨rfl, rfl, rfl, by decide +kernel, rfl, by decide +kernel, by decide +kernel⟩
theorem scLast : FnScope ["data", "at"] ["data"] (defScope sLast) := ⟨rfl, rfl, rfl, by decide +kernel, rfl, by decide +kernel, by decide +kernel⟩
/-! ### what the top holds -/
structure Gs (K : PySem.W.Frag) (mg : Str → Option Value) : Prop where
  len : mg "len" = none
  max : mg "max" = none
  min : mg "min" = none
  abs : mg "abs" = none
  int : mg "int" = none
  ord : mg "ord" = none
  sum : mg "sum" = none
  any : mg "any" = none
  list : mg "list" = none
  tuple : mg "tuple" = none
  range : mg "range" = none
  reversed : mg "reversed" = none
  enumerate : mg "enumerate" = none
  isinstance : mg "isinstance" = none
  crate : ∃ a, mg "CRATE_SIGN" = some (.ref a) ∧ ∀ G, SqT K G a (([67, 82, 84, 49] : List Int).map V.int)
  endS : ∃ a, mg "END_SIGN" = some (.ref a) ∧ ∀ G, SqT K G a (([67, 69, 78, 68] : List Int).map V.int)
  recS : ∃ a, mg "RECORD_SIGN" = some (.ref a) ∧ ∀ G, SqT K G a (([67, 68, 73, 82] : List Int).map V.int)
  endSize : ∃ t, mg "END_SIZE" = some (.int 10 t)
  mostName : ∃ t, mg "MOST_NAME" = some (.int 100 t)
  headSize : ∃ t, mg "HEAD_SIZE" = some (.int 20 t)
  recSize : ∃ t, mg "RECORD_SIZE" = some (.int 10 t)
  mostEntries : ∃ t, mg "MOST_ENTRIES" = some (.int 64 t)
  signs : ∃ t, mg "SIGNS" = some (.str " !\"#$?&'()*+,-./0123456789:;<=>?@abcdefghijklmnopqrstuvwxyz[\\]^_`abcdefghijklmnopqrstuvwxyz{|}~" t)
abbrev il (xs : List Int) : PyData := .list (xs.map PyData.int)
/-! ### mirrors of the small defs -/
def lowNum (xs : List Int) : Int := xs.reverse.foldl (fun n b => n * 256 + b) 0
def toLow : Int → Nat → List Int
  | _, 0 => []
  | n, k + 1 => Builtin.bitAnd n 255 :: toLow (n / 256) k
/-- the sign stands at a place -/
def stands (xs sg : List Int) (at_ : Nat) : Bool := decide ((xs.drop at_).take 1 = sg.take 1) && decide ((xs.drop at_).take sg.length = sg)
section
variable {P : Program} {w : World} {K : PySem.W.Frag} {mg : Str → Option Value} {base : Heap} {f : Addr} {fd : FuncData}
/-! ### promises -/
def preSpend (ds : List PyData) (d : PyData) : Prop := ∃ l c : Int, ds = [.int l, .int c] ∧ 0 ≤ c ∧ c ≤ l ∧ d = .tuple [.int (l - c), .bool true]
def preLow (ds : List PyData) (d : PyData) : Prop := ∃ xs : List Int, ds = [il xs] ∧ d = .int (lowNum xs)
def preToLow (ds : List PyData) (d : PyData) : Prop := ∃ (n : Int) (k : Nat), ds = [.int n, .int k] ∧ k ≤ 1000 ∧ d = il (toLow n k)
def preStands (ds : List PyData) (d : PyData) : Prop := ∃ (xs : List Int) (sg : List Int) (a : Nat), ds = [il xs, .tuple (sg.map PyData.int), .int a] ∧ sg ≠ [] ∧ d = .bool (stands xs sg a)
theorem cal_mk {x : Str} {st : Stmt} {k : Nat} {ps : List Str} {sp : Sp} (F : Fun K x x st f fd) (hm : mg x = some (.ref f)) (ok : FnOk P w K mg base CX0 k f fd ps sp) (b : Binds K fd ps []) : Cal P w K mg base k x ps sp := ⟨⟨f, fd, ok, hm, F.kp, b⟩⟩
theorem ok_spend (T : Gs K mg) (F : Fun K "spend" "spend" sSpend f fd) : FnOk P w K mg base CX0 1 f fd ["left", "cost"] (spD K preSpend) := by
  refine okD F scSpend (fun ds d ⟨_, _, e, _⟩ => by rw [e]; rfl) (by decide) fun cdv A outer s H E hr gd ds d hp Ge He Q k => ?_
  obtain ⟨l, c, rfl, h0, h1, rfl⟩ := hp
  refine r_set 1 gd (v_max gd.calm T.max (a_cons (v_var 1 rfl) (a_cons v_int a_nil))) ?_
  refine r_ifL (t_gt (v_var 1 rfl) (v_var 0 rfl)) (fun hb => ?_) (fun hb => ?_)
  · exfalso
    have := of_decide_eq_true hb
    split at this <;> omega
  · refine r_ret (v_tup (a_cons (v_sub (v_var 0 rfl) (v_var 1 rfl)) (a_cons v_bl a_nil))) ?_
    rw [if_neg (by omega)]
    exact k
theorem lowNum_snoc (xs : List Int) (i : Nat) (b : Int) (h : xs.reverse[i]? = some b) : (xs.reverse.take (i + 1)).foldl (fun n b => n * 256 + b) 0 = (xs.reverse.take i).foldl (fun n b => n * 256 + b) 0 * 256 + b := by
  rw [take_snoc h, List.foldl_append] <;> rfl
theorem ok_low (T : Gs K mg) (F : Fun K "low_number" "low_number" sLow f fd) : FnOk P w K mg base CX0 1 f fd ["data"] (spD K preLow) := by
  refine okD F scLow (fun ds d ⟨_, e, _⟩ => by rw [e]; rfl) (by decide) fun cdv A outer s H E hr gd ds d hp Ge He Q k => ?_
  obtain ⟨xs, rfl, rfl⟩ := hp
  refine r_set 1 gd v_int ?_
  refine r_for gd (i_rev T.reversed (v_var 0 rfl)) (fun i es => ∃ z, es = [.pur (il xs), .pur (.int ((xs.reverse.take i).foldl (fun n b => n * 256 + b) 0)), z]) (fun _ => False) [2] ⟨.emp, rfl⟩ ?_ ?_
  · rintro i d es1 hi ⟨z, rfl⟩
    rw [← List.map_reverse, List.getElem?_map] at hi
    obtain ⟨b, hb, rfl⟩ := Option.map_eq_some_iff.mp hi
    refine ⟨_, g_name 2 gd.nd (by decide), ?_⟩
    refine r_set 1 gd (v_add (v_mul (.inr ⟨by decide, by decide⟩) (v_var 1 rfl) v_int) (v_var 2 rfl)) ?_
    refine r_nil (Wk.refl _) ⟨.pur (.int b), ?_⟩
    rw [lowNum_snoc xs i b hb]
    rfl
  · rintro es1 (⟨z, rfl⟩ | h)
    · refine r_ret (v_var 1 rfl) ?_
      rw [List.length_reverse, List.length_map, ← List.length_reverse, List.take_length]
      exact k
    · exact h.elim
end
end K9
namespace K9
open PySem PySem.Spec PyProof.Rows L2 Evl
section
variable {X : Cx} {es : List Sl} {e a b c : Expr} {pos p p2 : Pos} {d d1 d2 : PyData} {ds xs ys : List PyData}
theorem gb_name {scope : Scope} {s0 : Shared} {H0 : Hp} {C : Addr} {cl : List (Str × Addr)} {fp : List Addr} (i : Nat) {x : Str} {vs : List Nat} (gd : Good X) (hj : i ∈ vs := by decide) (hi : X.N[i]? = some x := by rfl) (hx : Loc (Bk X scope s0 H0 C cl fp).env.scope x := by first | exact Or.inl rfl | exact Or.inr rfl)
    (hf : (Bk X scope s0 H0 C cl fp).fn x = true ∨ (Bk X scope s0 H0 C cl fp).env.scope.names.lookup x = some .local := by first | exact .inl rfl | exact .inr rfl) : Gv (Bk X scope s0 H0 C cl fp) (.Name x pos) d es (es.set i (.pur d)) vs := g_name i gd.nd hj hi hx hf
theorem ov_some {i : Int} (h : Ev X es e (.int i)) : Ov X es (some e) (some i) := h
theorem ov_none : Ov X es none none := True.intro
theorem cutD_map {α β : Type} (f : α → β) (l : List α) (lo hi : Option Int) : cutD (l.map f) lo hi = (cutD l lo hi).map f := by
  unfold cutD
  rw [List.length_map, ← List.map_drop, ← List.map_take]
theorem n_slI {lo hi : Expr} {xs : List Int} (m n : Nat) {i j : Int} (ha : Lv X es e (xs.map PyData.int)) (hl : Ev X es lo (.int i)) (hh : Ev X es hi (.int j)) (ei : i = m := by omega) (ej : j = (m : Int) + n := by omega) : Nv X es (.Subscript e (.Slice (some lo) (some hi) none p2) pos) (((xs.drop m).take n).map PyData.int) := by
  have ej : j = ((m + n : Nat) : Int) := by omega
  subst ei ej
  exact (n_sl ha (ov_some hl) (ov_some hh)).to (by rw [cutD_map, cutD_nn, Nat.add_sub_cancel_left])
theorem n_slTo {hi : Expr} {ds : List PyData} (n : Nat) {j : Int} (ha : Lv X es e ds) (hh : Ev X es hi (.int j)) (ej : j = n) : Nv X es (.Subscript e (.Slice none (some hi) none p2) pos) (ds.take n) := by
  subst ej
  exact (n_sl ha ov_none (ov_some hh)).to (by rw [cutD_no])
theorem n_slFrom {lo : Expr} {ds : List PyData} (n : Nat) {j : Int} (ha : Lv X es e ds) (hh : Ev X es lo (.int j)) (ej : j = n) : Nv X es (.Subscript e (.Slice (some lo) none none p2) pos) (ds.drop n) := by
  subst ej
  exact (n_sl ha (ov_some hh) ov_none).to (by rw [cutD_on])
theorem Ev.n {i : Int} (n : Nat) (h : Ev X es e (.int i)) (q : i = n := by omega) : Ev X es e (.int (n : Int)) := q ▸ h
end
def bytes (xs : List Int) : Prop := ∀ b ∈ xs, 0 ≤ b ∧ b ≤ 255
theorem stands_def (xs : List Int) (s0 : Int) (sg : List Int) (a : Nat) : (decide ((xs.drop a).take 1 = [s0]) && decide ((xs.drop a).take (s0 :: sg).length = s0 :: sg)) = decide ((xs.drop a).take (s0 :: sg).length = s0 :: sg) := by
  by_cases h : (xs.drop a).take (s0 :: sg).length = s0 :: sg
  · rw [decide_eq_true h]
    have : (xs.drop a).take 1 = [s0] := by
      have h2 := congrArg (List.take 1) h
      rw [List.take_take] at h2
      simpa using h2
    rw [decide_eq_true this]
    rfl
  · rw [decide_eq_false h, Bool.and_false]
/-- the sign stands at a place -/
def st4 (xs sg : List Int) (a : Nat) : Bool := decide ((xs.drop a).take sg.length = sg)
def preSt (ds : List PyData) (d : PyData) : Prop := ∃ (xs : List Int) (sg : List Int) (a : Nat), ds = [il xs, .tuple (sg.map PyData.int), .int a] ∧ sg ≠ [] ∧ d = .bool (st4 xs sg a)
def isEnd (xs : List Int) (a : Nat) : Bool := st4 xs [67, 69, 78, 68] a && decide (lowNum ((xs.drop (a + 6)).take 4) ≤ a)
def lastGo (xs : List Int) : Nat → Int
  | 0 => -1
  | n + 1 => if isEnd xs n then (n : Int) else lastGo xs n
def lastEnd (xs : List Int) : Int := lastGo xs (xs.length - 9)
def preLast (ds : List PyData) (d : PyData) : Prop := ∃ xs : List Int, ds = [il xs] ∧ xs.length ≤ 90000 ∧ d = .int (lastEnd xs)
/-! names -/
def tx (cs : List Nat) : Str := ⟨cs.toArray⟩
def table : List Nat := (" !\"#$?&'()*+,-./0123456789:;<=>?@abcdefghijklmnopqrstuvwxyz[\\]^_`abcdefghijklmnopqrstuvwxyz{|}~" : Str).cps.toList
def okByte (b : Int) : Bool := (decide (32 ≤ b) && decide (b ≤ 126)) && !decide (b = 37)
def signOf (b : Int) : Nat := table.getD (b - 32).toNat 0
def plainCodes (xs : List Int) : List Nat := (xs.filter okByte).map signOf
def prePart (ds : List PyData) (d : PyData) : Prop := ∃ xs : List Int, ds = [il xs] ∧ xs.length ≤ 90000 ∧ d = .str (tx (plainCodes xs))
def cuts : List Int → List Int → List (List Int)
  | _, [] => []
  | part, b :: r => if b = 47 ∨ b = 92 then part :: cuts [] r else cuts (part ++ [b]) r
def goodPart (p : List Nat) : Bool := !decide (p = []) && (!decide (p = [46]) && !decide (p = [46, 46]))
def nameParts (xs : List Int) : List (List Nat) := ((cuts [] (xs ++ [47])).map plainCodes).filter goodPart
def preParts (ds : List PyData) (d : PyData) : Prop := ∃ xs : List Int, ds = [il xs] ∧ xs.length ≤ 80000 ∧ d = .list ((nameParts xs).map fun p => .str (tx p))
def joinGo : List Nat → List (List Nat) → List Nat
  | name, [] => name
  | name, p :: r => if 100 < name.length + 1 + p.length then name else joinGo (name ++ 47 :: p) r
def plainName (xs : List Int) : List Nat := match nameParts xs with
  | [] => [112, 97, 114, 116]
  | p :: r => joinGo (p.take 100) r
def prePlain (ds : List PyData) (d : PyData) : Prop := ∃ xs : List Int, ds = [il xs] ∧ xs.length ≤ 80000 ∧ d = .str (tx (plainName xs))
def low2 (n : Int) (k : Nat) : List Int := (List.range k).map fun j => Builtin.bitAnd (n / 256 ^ j) 255
def preToLow2 (ds : List PyData) (d : PyData) : Prop := ∃ (n : Int) (k : Nat), ds = [.int n, .int k] ∧ k ≤ 1000 ∧ d = il (low2 n k)
theorem scPart : FnScope ["data", "byte"] ["data"] (defScope sPart) := ⟨rfl, rfl, rfl, by decide +kernel, rfl, by decide +kernel, by decide +kernel⟩
theorem scParts : FnScope ["data", "parts", "part", "byte"] ["data"] (defScope sParts) := ⟨rfl, rfl, rfl, by decide +kernel, rfl, by decide +kernel, by decide +kernel⟩
theorem scPlain : FnScope ["data", "parts", "name", "part"] ["data"] (defScope sPlain) := ⟨rfl, rfl, rfl, by decide +kernel, rfl, by decide +kernel, by decide +kernel⟩
section
variable {P : Program} {w : World} {K : PySem.W.Frag} {mg : Str → Option Value} {base : Heap} {f : Addr} {fd : FuncData}
theorem ok_stands (T : Gs K mg) (F : Fun K "stands_at" "stands_at" sStands f fd) : FnOk P w K mg base CX0 1 f fd ["data", "sign", "at"] (spD K preSt) := by
  refine okD F scStands (fun ds d ⟨_, _, _, e, _⟩ => by rw [e]; rfl) (by decide) fun cdv A outer s H E hr gd ds d hp Ge He Q k => ?_
  obtain ⟨xs, sg, a, rfl, hne, rfl⟩ := hp
  obtain ⟨s0, sg, rfl⟩ := List.exists_cons_of_ne_nil hne
  refine r_ret (Ev.to (v_and (v_eqL (ys := [s0]) gd (n_slI a 1 (v_var 0 rfl).lv (v_var 2 rfl) (v_add (v_var 2 rfl) v_int)).lv
      (n_lst (ds := [.int s0]) (a_cons (v_ixT (j := 0) (v_var 1 rfl) v_int rfl) a_nil)).lv) fun _ =>
    v_one (v_eqL gd (n_slI a (s0 :: sg).length (v_var 0 rfl).lv (v_var 2 rfl) (v_add (v_var 2 rfl) (v_lenT T.len (v_var 1 rfl))) rfl (by rw [List.length_map])).lv (n_listT T.list (v_var 1 rfl)).lv)) ?_) k
  rw [stands_def]
  rfl
theorem ok_toLow (T : Gs K mg) (F : Fun K "to_low" "to_low" sToLow f fd) : FnOk P w K mg base CX0 1 f fd ["number", "size"] (spD K preToLow2) := by
  refine okD F scToLow (fun ds d ⟨_, _, e, _⟩ => by rw [e]; rfl) (by decide) fun cdv A outer s H E hr gd ds d hp Ge He Q k => ?_
  obtain ⟨n, m, rfl, hm, rfl⟩ := hp
  refine r_own 2 gd (n_lst a_nil) ?_
  refine r_for gd (i_range T.range (v_var 1 rfl) (by omega) (by omega)) (fun i es => ∃ z, es = [.pur (.int (n / 256 ^ i)), .pur (.int m), .own ((low2 n i).map PyData.int), z]) (fun _ => False) [3] ⟨.emp, ?_⟩ ?_ ?_
  · rw [Int.pow_zero, Int.ediv_one]
    rfl
  · rintro i d es1 hi ⟨z, rfl⟩
    refine ⟨_, g_name 3 gd.nd (by decide), ?_⟩
    have hi' : i < m := by
      have := (List.getElem?_eq_some_iff.mp hi).1
      simpa using this
    have hlen : (low2 n i).length = i := by unfold low2; simp
    refine r_app 2 gd rfl (v_band (v_var 0 rfl) v_int) (by rw [List.length_map, hlen]; omega) ?_
    refine r_set 0 gd (v_shr (by decide) (v_var 0 rfl) v_int) ?_
    refine r_nil (Wk.refl _) ⟨.pur d, ?_⟩
    have e1 : n / 256 ^ i / 2 ^ (8 : Int).toNat = n / 256 ^ (i + 1) := by
      rw [Int.ediv_ediv_of_nonneg (by exact Int.pow_nonneg (by decide)), Int.pow_succ] <;> rfl
    have e2 : (low2 n i).map PyData.int ++ [.int (Builtin.bitAnd (n / 256 ^ i) 255)] = (low2 n (i + 1)).map PyData.int := by
      unfold low2
      rw [List.range_succ, List.map_append, List.map_append] <;> rfl
    rw [e1, e2]
    rfl
  · rintro es1 (⟨z, rfl⟩ | h)
    · refine r_frz 2 rfl (r_ret (v_var 2 rfl) ?_)
      rw [List.length_map, List.length_range, Int.toNat_natCast]
      exact k
    · exact h.elim
theorem ok_last (T : Gs K mg) (F : Fun K "last_end" "last_end" sLast f fd) (cS : Cal P w K mg base 1 "stands_at" ["data", "sign", "at"] (spD K preSt)) (cL : Cal P w K mg base 1 "low_number" ["data"] (spD K preLow)) : FnOk P w K mg base CX0 2 f fd ["data"] (spD K preLast) := by
  refine okD F scLast (fun ds d ⟨_, e, _⟩ => by rw [e]; rfl) (by decide) fun cdv A outer s H E hr gd ds d hp Ge He Q k => ?_
  obtain ⟨xs, rfl, hl, rfl⟩ := hp
  have hlen : ((xs.map PyData.int).length : Int) = (xs.length : Int) := by rw [List.length_map]
  refine r_for gd (i_down T.range (a_cons (v_sub (v_lenL T.len (v_var 0 rfl).lv) (v_gint T.endSize)) (a_cons (v_neg v_int) (a_cons (v_neg v_int) a_nil))) (by omega) (by omega) (by omega))
    (fun i es => (∃ z, es = [.pur (il xs), z]) ∧ lastEnd xs = lastGo xs (xs.length - 9 - i)) (fun _ => False) [1] ⟨⟨.emp, rfl⟩, rfl⟩ ?_ ?_
  · rintro i d es1 hi ⟨⟨z, rfl⟩, hinv⟩
    refine ⟨_, g_name 1 gd.nd (by decide), ?_⟩
    rw [List.getElem?_map] at hi
    obtain ⟨j, hj, rfl⟩ := Option.map_eq_some_iff.mp hi
    have hji : j = i := by
      obtain ⟨h1, h2⟩ := List.getElem?_eq_some_iff.mp hj
      simpa using h2.symm
    subst hji
    have hi' : j < xs.length - 9 := by
      have := (List.getElem?_eq_some_iff.mp hj).1
      simp at this
      omega
    obtain ⟨a, ha⟩ : ∃ a : Nat, xs.length - 9 - j = a + 1 := ⟨xs.length - 9 - j - 1, by omega⟩
    have ea : ((xs.map PyData.int).length : Int) - 10 - (j : Int) = (a : Int) := by rw [hlen]; omega
    rw [ha] at hinv
    refine r_ifL (b := isEnd xs a) (w_and (t_val (v_call cS (hr.mono (by decide)) (a_cons (v_var 0 rfl) (a_cons (v_gtup T.endS) (a_cons ((v_var 1 rfl).n a ea) a_nil))) ⟨xs, _, a, rfl, by decide, rfl⟩)) fun _ =>
      w_and1 (t_le (v_call cL (hr.mono (by decide)) (a_cons (n_slI (a + 6) 4 (v_var 0 rfl).lv (v_add (v_var 1 rfl) v_int) (v_add (v_var 1 rfl) (v_gint T.endSize))).ev a_nil) ⟨_, rfl, rfl⟩) ((v_var 1 rfl).n a ea))).tv (fun hb => ?_) (fun hb => ?_)
    · refine r_ret ((v_var 1 rfl).n a ea) ?_
      rw [hinv] at k
      unfold lastGo at k
      rw [if_pos hb] at k
      exact k
    · refine r_nil (Wk.refl _) ⟨⟨_, rfl⟩, ?_⟩
      rw [hinv, show xs.length - 9 - (j + 1) = a by omega]
      show (if isEnd xs a then (a : Int) else lastGo xs a) = _
      rw [if_neg (by rw [hb]; decide)]
  · rintro es1 (⟨⟨z, rfl⟩, hinv⟩ | h)
    · refine r_ret (v_neg v_int) ?_
      have : xs.length - 9 - ((List.range (((xs.map PyData.int).length : Int) - 10 - -1).toNat).map fun (j : Nat) => PyData.int (((xs.map PyData.int).length : Int) - 10 - (j : Int))).length = 0 := by
        rw [List.length_map, List.length_range, hlen]
        omega
      rw [this] at hinv
      rw [hinv] at k
      exact k
    · exact h.elim
end
end K9
namespace K9
open PySem PySem.Spec PyProof.Rows L2 Evl
/-! texts by their codes -/
theorem tx_len (cs : List Nat) : (tx cs).length = cs.length := by
  show cs.toArray.size = cs.length
  simp
theorem tx_inj {a b : List Nat} (h : tx a = tx b) : a = b := by
  have := congrArg (fun s : Str => s.cps.toList) h
  simpa [tx] using this
theorem tx_app (a b : List Nat) : tx a ++ tx b = tx (a ++ b) := by
  show (⟨a.toArray ++ b.toArray⟩ : Str) = ⟨(a ++ b).toArray⟩
  simp
theorem tx_nil : (Str.ofString "") = tx [] := by decide +kernel
theorem tx_dot : (Str.ofString ".") = tx [46] := by decide +kernel
theorem tx_dots : (Str.ofString "..") = tx [46, 46] := by decide +kernel
theorem tx_slash : (Str.ofString "/") = tx [47] := by decide +kernel
theorem tx_part : (Str.ofString "part") = tx [112, 97, 114, 116] := by decide +kernel
theorem sjoin_tx : ∀ cs : List Nat, Str.join (tx []) (cs.map fun c => tx [c]) = tx cs
  | [] => rfl
  | [c] => rfl
  | c :: c2 :: cs => by
    show tx [c] ++ tx [] ++ Str.join (tx []) ((c2 :: cs).map fun c => tx [c]) = _
    rw [sjoin_tx (c2 :: cs), tx_app, tx_app]
    rfl
theorem join_tx (cs : List Nat) : Txt.join (Str.ofString "") (cs.map fun c => tx [c]) = tx cs := by
  rw [TL.join_eq, tx_nil, sjoin_tx]
theorem cutS_tx (p : List Nat) (n : Nat) : cutS (tx p) none (some (n : Int)) = tx (p.take n) := by
  have h := cutD_no p n
  unfold cutD at h
  unfold cutS
  rw [tx_len]
  show tx _ = _
  rw [show (tx p).cps.toList = p by simp [tx], h]
theorem filter_map_int {β : Type} (f : PyData → Bool) (g : PyData → β) : ∀ xs : List Int, ((xs.map PyData.int).filter f).map g = (xs.filter fun b => f (.int b)).map fun b => g (.int b)
  | [] => rfl
  | x :: xs => by
    rw [List.map_cons, List.filter_cons, List.filter_cons]
    by_cases h : f (.int x) = true
    · rw [if_pos h, if_pos h, List.map_cons, List.map_cons, filter_map_int f g xs]
    · rw [if_neg h, if_neg h, filter_map_int f g xs]
theorem table_len : table.length = 95 := by decide +kernel
theorem sum_ones : ∀ cs : List Nat, ((cs.map fun c => tx [c]).map (·.length)).sum = cs.length
  | [] => rfl
  | c :: cs => by
    rw [List.map_cons, List.map_cons, List.sum_cons, sum_ones cs, List.length_cons, tx_len]
    simp
    omega
/-! what the parts are -/
theorem cuts_nil (part : List Int) : cuts part [] = [] := rfl
theorem cuts_cons (part : List Int) (b : Int) (r : List Int) : cuts part (b :: r) = if b = 47 ∨ b = 92 then part :: cuts [] r else cuts (part ++ [b]) r := rfl
theorem joinGo_nil (nm : List Nat) : joinGo nm [] = nm := by
  unfold joinGo
  rfl
theorem joinGo_cons (nm p : List Nat) (r : List (List Nat)) : joinGo nm (p :: r) = if 100 < nm.length + 1 + p.length then nm else joinGo (nm ++ 47 :: p) r := by
  rw [joinGo]
theorem cuts_len : ∀ (rest part : List Int), (∀ q ∈ cuts part rest, q.length ≤ part.length + rest.length) ∧ (cuts part rest).length ≤ rest.length
  | [], part => ⟨fun q h => (by rw [cuts_nil] at h; cases h), Nat.le_refl _⟩
  | b :: r, part => by
    rw [cuts_cons]
    split
    · obtain ⟨h1, h2⟩ := cuts_len r []
      refine ⟨fun q hq => ?_, by simp; omega⟩
      rcases List.mem_cons.mp hq with rfl | hq
      · omega
      · have := h1 q hq
        simp at this ⊢
        omega
    · obtain ⟨h1, h2⟩ := cuts_len r (part ++ [b])
      refine ⟨fun q hq => ?_, by simp; omega⟩
      have := h1 q hq
      simp at this ⊢
      omega
theorem plainCodes_len (xs : List Int) : (plainCodes xs).length ≤ xs.length := by
  unfold plainCodes
  rw [List.length_map]
  exact List.length_filter_le ..
theorem nameParts_len (xs : List Int) : (∀ p ∈ nameParts xs, p.length ≤ xs.length + 1) ∧ (nameParts xs).length ≤ xs.length + 1 := by
  obtain ⟨h1, h2⟩ := cuts_len (xs ++ [47]) []
  unfold nameParts
  refine ⟨fun p hp => ?_, ?_⟩
  · obtain ⟨hp, _⟩ := List.mem_filter.mp hp
    obtain ⟨q, hq, rfl⟩ := List.mem_map.mp hp
    have := h1 q hq
    have := plainCodes_len q
    simp at *
    omega
  · refine Nat.le_trans (List.length_filter_le ..) ?_
    rw [List.length_map]
    simpa using h2
theorem good_in (p : List Nat) : (!decide (tx p ∈ [Str.ofString "", Str.ofString ".", Str.ofString ".."])) = goodPart p := by
  rw [tx_nil, tx_dot, tx_dots]
  have e : ∀ q, tx p = tx q ↔ p = q := fun q => ⟨tx_inj, fun h => h ▸ rfl⟩
  unfold goodPart
  by_cases h1 : p = []
  · subst h1
    rfl
  · by_cases h2 : p = [46]
    · subst h2
      rfl
    · by_cases h3 : p = [46, 46]
      · subst h3
        rfl
      · rw [decide_eq_false h1, decide_eq_false h2, decide_eq_false h3, decide_eq_false]
        · rfl
        · simp only [List.mem_cons, e, List.not_mem_nil, or_false]
          rintro (h | h | h)
          · exact h1 h
          · exact h2 h
          · exact h3 h
section
variable {P : Program} {w : World} {K : PySem.W.Frag} {mg : Str → Option Value} {base : Heap} {f : Addr} {fd : FuncData}
theorem ok_part (T : Gs K mg) (F : Fun K "plain_part" "plain_part" sPart f fd) : FnOk P w K mg base CX0 1 f fd ["data"] (spD K prePart) := by
  refine okD F scPart (fun ds d ⟨_, e, _⟩ => by rw [e]; rfl) (by decide) fun cdv A outer s H E hr gd ds d hp Ge He Q k => ?_
  obtain ⟨xs, rfl, hl, rfl⟩ := hp
  refine r_ret (Ev.to (v_join (zs := (plainCodes xs).map fun c => tx [c]) v_str ((n_lc [("byte", 1)] gd (fun d => [.pur (il xs), .pur d]) (fun d => match d with | .int b => okByte b | _ => false) (fun d => match d with | .int b => .str (tx [signOf b]) | _ => .none)
      (i_list (v_var 0 rfl)) (blkOk_by (N := ["data", "byte"]) (sc := defScope sPart) (by decide +kernel)) (fun _ _ _ _ _ d _ => gb_name 1 gd) (fun _ _ _ _ _ d hd => ?_) (fun _ _ _ _ _ d hd hf => ?_) (by rw [List.length_map]; omega)).lv.to ?_) ?_) ?_) k
  · obtain ⟨b, _, rfl⟩ := List.mem_map.mp hd
    exact s_one (w_and (t_lele v_int (v_var 1 rfl) v_int) fun _ => w_and1 (t_ne (v_var 1 rfl) v_int)).tv
  · obtain ⟨b, _, rfl⟩ := List.mem_map.mp hd
    have hf' : okByte b = true := hf
    unfold okByte at hf'
    simp only [Bool.and_eq_true, decide_eq_true_eq] at hf'
    refine v_ixS (j := (b - 32).toNat) (v_gstr T.signs) ((v_sub (v_var 1 rfl) v_int).n _ (by omega)) (by decide +kernel) ?_
    show table[(b - 32).toNat]? = some (table.getD (b - 32).toNat 0)
    rw [List.getD_eq_getElem?_getD, List.getElem?_eq_getElem (by rw [table_len]; omega)]
    rfl
  · rw [filter_map_int]
    unfold plainCodes
    rw [List.map_map, List.map_map]
    rfl
  · have h1 := plainCodes_len xs
    rw [sum_ones, List.length_map, tx_nil, tx_len]
    simp
    omega
  · rw [join_tx]
theorem ok_parts (T : Gs K mg) (F : Fun K "name_parts" "name_parts" sParts f fd) (cP : Cal P w K mg base 1 "plain_part" ["data"] (spD K prePart)) : FnOk P w K mg base CX0 2 f fd ["data"] (spD K preParts) := by
  refine okD F scParts (fun ds d ⟨_, e, _⟩ => by rw [e]; rfl) (by decide) fun cdv A outer s H E hr gd ds d hp Ge He Q k => ?_
  obtain ⟨xs, rfl, hl, rfl⟩ := hp
  refine r_own 1 gd (n_lst a_nil) ?_
  refine r_own 2 gd (n_lst a_nil) ?_
  have hi0 : (xs.map PyData.int ++ [PyData.int 47]) = (xs ++ [47]).map PyData.int := by rw [List.map_append] <;> rfl
  have hlen : (xs ++ [47]).length ≤ 90000 := by simp; omega
  refine r_for gd (i_list (Nv.to (n_lst (a_starL (v_var 0 rfl).lv (a_cons v_int a_nil)) (by rw [hi0, List.length_map]; omega)) hi0).ev)
    (fun i es => ∃ (ps : List (List Int)) (part : List Int) (z : Sl), es = [.pur (il xs), .own (ps.map fun q => .str (tx (plainCodes q))), .own (part.map PyData.int), z] ∧ ps ++ cuts part ((xs ++ [47]).drop i) = cuts [] (xs ++ [47]) ∧ ps.length ≤ i ∧ part.length ≤ i)
    (fun _ => False) [3] ⟨[], [], .emp, rfl, rfl, Nat.le_refl _, Nat.le_refl _⟩ ?_ ?_
  · rintro i d es1 hi ⟨ps, part, z, rfl, hc, hps, hpart⟩
    rw [List.getElem?_map] at hi
    obtain ⟨b, hb, rfl⟩ := Option.map_eq_some_iff.mp hi
    have hil : i < (xs ++ [47]).length := (List.getElem?_eq_some_iff.mp hb).1
    have hd : (xs ++ [47]).drop i = b :: (xs ++ [47]).drop (i + 1) := by
      rw [List.drop_eq_getElem_cons hil]
      congr 1
      exact (List.getElem?_eq_some_iff.mp hb).2
    rw [hd] at hc
    refine ⟨_, g_name 3 gd.nd (by decide), ?_⟩
    refine r_if (b := decide (b = 47) || decide (b = 92)) (fun es => ∃ (ps : List (List Int)) (part : List Int) (z : Sl), es = [.pur (il xs), .own (ps.map fun q => .str (tx (plainCodes q))), .own (part.map PyData.int), z] ∧ ps ++ cuts part ((xs ++ [47]).drop (i + 1)) = cuts [] (xs ++ [47]) ∧ ps.length ≤ i + 1 ∧ part.length ≤ i + 1)
      (w_or (t_eq (v_var 3 rfl) v_int) fun _ => w_or1 (t_eq (v_var 3 rfl) v_int)).tv (fun h => ?_) (fun h => ?_) (fun es' h => r_nil (Wk.refl _) h)
    · have h' : b = 47 ∨ b = 92 := by simpa using h
      rw [cuts_cons, if_pos h'] at hc
      refine r_frz 2 rfl ?_
      refine r_app 1 gd rfl (v_call cP (hr.mono (by decide)) (a_cons (v_var 2 rfl) a_nil) ⟨part, rfl, by omega, rfl⟩) (by rw [List.length_map]; omega) ?_
      refine r_own 2 gd (n_lst a_nil) ?_
      refine r_nil (Wk.refl _) ⟨ps ++ [part], [], .pur (.int b), ?_, ?_, by simp; omega, Nat.zero_le _⟩
      · rw [List.map_append]
        rfl
      · rw [List.append_assoc]
        exact hc
    · have h' : ¬ (b = 47 ∨ b = 92) := by simpa using h
      rw [cuts_cons, if_neg h'] at hc
      refine r_app 2 gd rfl (v_var 3 rfl) (by rw [List.length_map]; omega) ?_
      refine r_nil (Wk.refl _) ⟨ps, part ++ [b], .pur (.int b), ?_, hc, by omega, by simp; omega⟩
      rw [List.map_append]
      rfl
  · rintro es1 (⟨ps, part, z, rfl, hc, hps, hpart⟩ | h)
    · rw [List.length_map] at hc hps hpart
      rw [List.drop_length] at hc
      have hc' : ps = cuts [] (xs ++ [47]) := by
        rw [cuts_nil, List.append_nil] at hc
        exact hc
      refine r_frz 1 rfl ?_
      refine r_ret (Nv.ev (Nv.to (n_lc [("part", 2)] gd (fun d => [.pur (il xs), .pur (.list (ps.map fun q => .str (tx (plainCodes q)))), .pur d, z]) (fun d => match d with | .str s => !decide (s ∈ [Str.ofString "", Str.ofString ".", Str.ofString ".."]) | _ => false) (fun d => d)
        (i_list (v_var 1 rfl)) (blkOk_by (N := ["data", "parts", "part", "byte"]) (sc := defScope sParts) (by decide +kernel)) (fun _ _ _ _ _ d _ => gb_name 2 gd) (fun _ _ _ _ _ d hd => ?_) (fun _ _ _ _ _ d hd hf => v_var 2 rfl) (by rw [List.length_map]; omega)) ?_)) k
      · obtain ⟨q, _, rfl⟩ := List.mem_map.mp hd
        exact s_one (t_notInT (v_var 2 rfl) (v_tup (a_cons v_str (a_cons v_str (a_cons v_str a_nil)))))
      · unfold nameParts
        rw [← hc', List.map_id']
        have key : ∀ l : List (List Int), (l.map fun q => PyData.str (tx (plainCodes q))).filter (fun d => match d with | .str s => !decide (s ∈ [Str.ofString "", Str.ofString ".", Str.ofString ".."]) | _ => false) = ((l.map plainCodes).filter goodPart).map fun p => PyData.str (tx p) := by
          intro l
          induction l with
          | nil => rfl
          | cons q l ih =>
            rw [List.map_cons, List.map_cons, List.filter_cons, List.filter_cons, ih]
            have e := good_in (plainCodes q)
            by_cases g : goodPart (plainCodes q) = true
            · rw [if_pos g, if_pos (e.trans g)]
              rfl
            · rw [if_neg g, if_neg fun z => g (e.symm.trans z)]
        exact key ps
    · exact h.elim
theorem plain_strs (ps : List (List Nat)) : PyData.plainAll (ps.map fun p => .str (tx p)) = true := plainAll_of fun d hd => by
  obtain ⟨p, _, rfl⟩ := List.mem_map.mp hd
  rfl
theorem depth_strs (ps : List (List Nat)) : PyData.depthAll (ps.map fun p => .str (tx p)) ≤ 0 := depthAll_of fun d hd => by
  obtain ⟨p, _, rfl⟩ := List.mem_map.mp hd
  exact Nat.le_refl _
theorem ok_plain (T : Gs K mg) (F : Fun K "plain_name" "plain_name" sPlain f fd) (cP : Cal P w K mg base 2 "name_parts" ["data"] (spD K preParts)) : FnOk P w K mg base CX0 3 f fd ["data"] (spD K prePlain) := by
  refine okD F scPlain (fun ds d ⟨_, e, _⟩ => by rw [e]; rfl) (by decide) fun cdv A outer s H E hr gd ds d hp Ge He Q k => ?_
  obtain ⟨xs, rfl, hl, rfl⟩ := hp
  obtain ⟨n1, n2⟩ := nameParts_len xs
  refine r_set 1 gd (v_call cP (hr.mono (by decide)) (a_cons (v_var 0 rfl) a_nil) ⟨xs, rfl, hl, rfl⟩) ?_
  refine r_ifL (t_eqNil gd (v_var 1 rfl).lv (n_lst a_nil).lv (plain_strs _) (Nat.le_trans (depth_strs _) (by decide))) (fun hb => ?_) (fun hb => ?_)
  · refine r_ret (Ev.to v_str ?_) k
    unfold plainName
    cases e : nameParts xs with
    | nil => rw [tx_part]
    | cons p r => rw [e] at hb; cases hb
  · obtain ⟨p, r, e⟩ : ∃ p r, nameParts xs = p :: r := by
      cases e : nameParts xs with
      | nil => rw [e] at hb; cases hb
      | cons p r => exact ⟨p, r, rfl⟩
    have hres : plainName xs = joinGo (p.take 100) r := by
      unfold plainName
      rw [e]
    rw [hres] at k
    rw [e] at n1 n2 ⊢
    have hp1 : p.length ≤ 90000 := by
      have := n1 p (List.mem_cons_self ..)
      omega
    refine r_set 2 gd (Ev.to (v_slS (v_ixL (j := 0) (v_var 1 rfl).lv v_int rfl) ov_none (ov_some (v_gint T.mostName)) (by rw [tx_len]; omega)) (by rw [show (100 : Int) = ((100 : Nat) : Int) from rfl, cutS_tx])) ?_
    refine r_for gd (i_list (Nv.to (n_slFrom 1 (v_var 1 rfl).lv v_int rfl) (by rw [List.map_cons, List.drop_one, List.tail_cons])).ev)
      (fun i es => ∃ (nm : List Nat) (z : Sl), es = [.pur (il xs), .pur (.list ((p :: r).map fun p => .str (tx p))), .pur (.str (tx nm)), z] ∧ joinGo nm (r.drop i) = joinGo (p.take 100) r ∧ nm.length ≤ 100)
      (fun es => ∃ z, es = [.pur (il xs), .pur (.list ((p :: r).map fun p => .str (tx p))), .pur (.str (tx (joinGo (p.take 100) r))), z]) [3] ⟨p.take 100, .emp, rfl, rfl, by rw [List.length_take]; omega⟩ ?_ ?_
    · rintro i d es1 hi ⟨nm, z, rfl, hj, hn⟩
      rw [List.getElem?_map] at hi
      obtain ⟨q, hq, rfl⟩ := Option.map_eq_some_iff.mp hi
      have hil : i < r.length := (List.getElem?_eq_some_iff.mp hq).1
      have hqm : q ∈ p :: r := List.mem_cons_of_mem _ (List.mem_of_getElem? hq)
      have hq1 : q.length ≤ 90000 := by
        have := n1 q hqm
        omega
      have hd : r.drop i = q :: r.drop (i + 1) := by
        rw [List.drop_eq_getElem_cons hil]
        congr 1
        exact (List.getElem?_eq_some_iff.mp hq).2
      rw [hd] at hj
      rw [joinGo_cons] at hj
      refine ⟨_, g_name 3 gd.nd (by decide), ?_⟩
      refine r_ifL (t_gt (v_add (v_add (v_lenS T.len (v_var 2 rfl) (by rw [tx_len]; omega)) v_int) (v_lenS T.len (v_var 3 rfl) (by rw [tx_len]; omega))) (v_gint T.mostName)) (fun hb => ?_) (fun hb => ?_)
      · rw [tx_len, tx_len] at hb
        have hb' := of_decide_eq_true hb
        rw [if_pos (by omega)] at hj
        refine r_break (Wk.refl _) ⟨.pur (.str (tx q)), ?_⟩
        rw [← hj]
        rfl
      · rw [tx_len, tx_len] at hb
        have hb' := of_decide_eq_false hb
        rw [if_neg (by omega)] at hj
        refine r_set 2 gd (v_addS (v_addS (v_var 2 rfl) v_str ?_) (v_var 3 rfl) ?_) ?_
        · rw [tx_slash, tx_len, tx_len]
          simp
          omega
        · rw [tx_slash, tx_app, tx_len, tx_len]
          simp
          omega
        · refine r_nil (Wk.refl _) ⟨nm ++ 47 :: q, .pur (.str (tx q)), ?_, hj, by simp; omega⟩
          rw [tx_slash, tx_app, tx_app, List.append_assoc]
          rfl
    · rintro es1 (⟨nm, z, rfl, hj, hn⟩ | ⟨z, rfl⟩)
      · rw [List.length_map, List.drop_length] at hj
        rw [joinGo_nil] at hj
        refine r_ret (v_var 2 rfl) ?_
        rw [hj]
        exact k
      · exact r_ret (v_var 2 rfl) k
end
end K9
namespace K9
open PySem PySem.Spec PyProof.Rows L2 Evl
/-! ### numbers of bytes -/
theorem lowNum_cons (x : Int) (xs : List Int) : lowNum (x :: xs) = lowNum xs * 256 + x := by
  unfold lowNum
  rw [List.reverse_cons, List.foldl_append] <;> rfl
theorem lowNum_bounds : ∀ {xs : List Int}, bytes xs → 0 ≤ lowNum xs ∧ lowNum xs < 256 ^ xs.length
  | [], _ => ⟨Int.le_refl 0, by decide⟩
  | x :: xs, h => by
    obtain ⟨h1, h2⟩ := lowNum_bounds fun b hb => h b (List.mem_cons_of_mem _ hb)
    obtain ⟨h3, h4⟩ := h x (List.mem_cons_self ..)
    rw [lowNum_cons, List.length_cons, Int.pow_succ]
    omega
def lowN (xs : List Int) : Nat := (lowNum xs).toNat
theorem lowN_cast {xs : List Int} (h : bytes xs) : lowNum xs = (lowN xs : Int) := by
  unfold lowN
  have := (lowNum_bounds h).1
  omega
theorem bytes_sub {xs : List Int} (h : bytes xs) (a n : Nat) : bytes ((xs.drop a).take n) := fun b hb => h b (List.mem_of_mem_drop (List.mem_of_mem_take hb))
theorem lowN_two {xs : List Int} (h : bytes xs) (a : Nat) : lowN ((xs.drop a).take 2) < 65536 := by
  have h2 := (lowNum_bounds (bytes_sub h a 2)).2
  have h3 := lowN_cast (bytes_sub h a 2)
  have h4 : ((xs.drop a).take 2).length ≤ 2 := by rw [List.length_take]; omega
  have h5 : (256 : Int) ^ ((xs.drop a).take 2).length ≤ 65536 := by
    rcases Nat.lt_or_ge ((xs.drop a).take 2).length 1 with q | q
    · rw [show ((xs.drop a).take 2).length = 0 by omega]; decide
    · rcases Nat.lt_or_ge ((xs.drop a).take 2).length 2 with q2 | q2
      · rw [show ((xs.drop a).take 2).length = 1 by omega]; decide
      · rw [show ((xs.drop a).take 2).length = 2 by omega]; decide
  omega
/-! ### entries, heads -/
structure En where
  name : List Int
  meth : Int
  size : Int
  total : Int
  part : List Int
def En.py (e : En) : PyData := .tuple [il e.name, .int e.meth, .int e.size, .int e.total, .tuple (e.part.map PyData.int)]
structure Hd where
  en : En
  whole : Bool
  stop : Nat
def Hd.py (h : Hd) : PyData := .tuple [h.en.py, .bool h.whole, .int h.stop]
def crt : List Int := [67, 82, 84, 49]
def cdir : List Int := [67, 68, 73, 82]
def cend : List Int := [67, 69, 78, 68]
def firstOf (xs : List Int) (a : Nat) : Nat := a + 20 + lowN ((xs.drop (a + 6)).take 2)
def stopOf (xs : List Int) (a : Nat) : Nat := firstOf xs a + lowN ((xs.drop (a + 16)).take 4)
def headAt (xs : List Int) (a : Nat) : Option Hd :=
  if st4 xs crt a = false ∨ xs.length < a + 20 then none else
  if xs.length < firstOf xs a then none else
  some ⟨⟨(xs.drop (a + 20)).take (lowN ((xs.drop (a + 6)).take 2)), xs.getD (a + 4) 0, lowNum ((xs.drop (a + 8)).take 4), lowNum ((xs.drop (a + 12)).take 4), (xs.drop (firstOf xs a)).take (lowN ((xs.drop (a + 16)).take 4))⟩,
    decide (stopOf xs a ≤ xs.length), min (stopOf xs a) xs.length⟩
def hpy : Option Hd → PyData
  | none => .none
  | some h => h.py
def preHead (ds : List PyData) (d : PyData) : Prop := ∃ (xs : List Int) (a : Nat), ds = [il xs, .int a] ∧ bytes xs ∧ xs.length ≤ 60000 ∧ d = hpy (headAt xs a)
structure Fd where
  en : En
  start : Nat
  stop : Nat
def Fd.py (f : Fd) : PyData := .tuple [f.en.py, .int f.start, .int f.stop]
def behindOf (xs : List Int) (a : Nat) : Nat := a + 10 + lowN ((xs.drop (a + 8)).take 2)
def distOf (xs : List Int) (a : Nat) : Nat := lowN ((xs.drop (a + 4)).take 4)
def recFd (xs : List Int) (place a : Nat) : List Fd := match headAt xs (place - distOf xs a) with
  | some h => if h.whole = true then [⟨{ h.en with name := (xs.drop (a + 10)).take (lowN ((xs.drop (a + 8)).take 2)) }, place - distOf xs a, h.stop⟩] else []
  | none => []
def recOk (xs : List Int) (place a : Nat) : Bool := st4 xs cdir a && !((decide (place < behindOf xs a) || (decide (place < a + 10) || decide (place < distOf xs a))))
def dirGo (xs : List Int) (place : Nat) : Nat → Nat → List Fd
  | 0, _ => []
  | n + 1, a => if recOk xs place a = true then recFd xs place a ++ dirGo xs place n (behindOf xs a) else []
def dirs (xs : List Int) (place : Nat) : List Fd := dirGo xs place (lowN ((xs.drop (place + 4)).take 2)) (place - lowN ((xs.drop (place + 6)).take 4))
def preDir (ds : List PyData) (d : PyData) : Prop := ∃ (xs : List Int) (place : Nat), ds = [il xs, .int place] ∧ bytes xs ∧ xs.length ≤ 60000 ∧ lowN ((xs.drop (place + 6)).take 4) ≤ place ∧ d = .list ((dirs xs place).map Fd.py)
def clash (x o : Fd) : Bool := decide (x.start < o.stop) && decide (o.start < x.stop)
def overGo : List Fd → List Fd → List Fd
  | kept, [] => kept
  | kept, x :: r => if kept.any (clash x) = true then overGo kept r else overGo (kept ++ [x]) r
theorem overGo_nil (k : List Fd) : overGo k [] = k := by unfold overGo; rfl
theorem overGo_cons (k : List Fd) (x : Fd) (r : List Fd) : overGo k (x :: r) = if k.any (clash x) = true then overGo k r else overGo (k ++ [x]) r := by rw [overGo]
def preOver (ds : List PyData) (d : PyData) : Prop := ∃ fs : List Fd, ds = [.list (fs.map Fd.py)] ∧ fs.length ≤ 70000 ∧ d = .list ((overGo [] fs).map fun f => f.en.py)
def searchGo (xs : List Int) : Nat → Nat → List En
  | 0, _ => []
  | n + 1, a => if a < xs.length then (match headAt xs a with
    | none => searchGo xs n (a + 1)
    | some h => h.en :: searchGo xs n h.stop) else []
def preSearch (ds : List PyData) (d : PyData) : Prop := ∃ xs : List Int, ds = [il xs] ∧ bytes xs ∧ xs.length ≤ 60000 ∧ d = .list ((searchGo xs xs.length 0).map En.py)
theorem headAt_stop {xs : List Int} {a : Nat} {h : Hd} (e : headAt xs a = some h) : a + 20 ≤ h.stop ∧ h.stop ≤ xs.length := by
  unfold headAt at e
  split at e
  · cases e
  split at e
  · cases e
  rename_i h1 h2
  cases e
  have : ¬ xs.length < a + 20 := fun z => h1 (.inr z)
  show a + 20 ≤ min (stopOf xs a) xs.length ∧ min (stopOf xs a) xs.length ≤ xs.length
  unfold stopOf firstOf
  omega
theorem scHead : FnScope ["data", "at", "first", "end", "size", "total", "entry"] ["data", "at"] (defScope sHead) := ⟨rfl, rfl, rfl, by decide +kernel, rfl, by decide +kernel, by decide +kernel⟩
theorem scDir : FnScope ["data", "place", "found", "at", "_", "behind", "distance", "head", "entry", "name"] ["data", "place"] (defScope sDir) := ⟨rfl, rfl, rfl, by decide +kernel, rfl, by decide +kernel, by decide +kernel⟩
theorem scOver : FnScope ["found", "kept", "entry", "start", "end", "other", "item"] ["found"] (defScope sOver) := ⟨rfl, rfl, rfl, by decide +kernel, rfl, by decide +kernel, by decide +kernel⟩
theorem scSearch : FnScope ["data", "entries", "at", "head"] ["data"] (defScope sSearch) := ⟨rfl, rfl, rfl, by decide +kernel, rfl, by decide +kernel, by decide +kernel⟩
abbrev CalD (P : Program) (w : World) (K : PySem.W.Frag) (mg : Str → Option Value) (base : Heap) (k : Nat) (x : Str) (ps : List Str) (pre : List PyData → PyData → Prop) : Prop := Cal P w K mg base k x ps (spD K pre)
section
variable {P : Program} {w : World} {K : PySem.W.Frag} {mg : Str → Option Value} {base : Heap} {f : Addr} {fd : FuncData}
theorem ok_head (T : Gs K mg) (F : Fun K "head_at" "head_at" sHead f fd) (cS : CalD P w K mg base 1 "stands_at" ["data", "sign", "at"] preSt) (cL : CalD P w K mg base 1 "low_number" ["data"] preLow) : FnOk P w K mg base CX0 2 f fd ["data", "at"] (spD K preHead) := by
  refine okD F scHead (fun ds d ⟨_, _, e, _⟩ => by rw [e]; rfl) (by decide) fun cdv A outer s H E hr gd ds d hp Ge He Q k => ?_
  obtain ⟨xs, a, rfl, hb, hl, rfl⟩ := hp
  have hlen : ((xs.map PyData.int).length : Int) = (xs.length : Int) := by rw [List.length_map]
  refine r_ifL (b := !st4 xs crt a || decide (xs.length < a + 20)) ((w_or (t_not (t_val (v_call cS (hr.mono (by decide)) (a_cons (v_var 0 rfl) (a_cons (v_gtup T.crate) (a_cons (v_var 1 rfl) a_nil))) ⟨xs, _, a, rfl, by decide, rfl⟩))) fun _ =>
    w_or1 ((t_gt (v_add (v_var 1 rfl) (v_gint T.headSize)) (v_lenL T.len (v_var 0 rfl).lv)).to (by rw [hlen]; apply decide_eq_decide.mpr; omega))).tv) (fun hb1 => ?_) (fun hb1 => ?_)
  · refine r_ret (v_non.to ?_) k
    unfold headAt
    rw [if_pos]
    · rfl
    · simpa using hb1
  · have hb1' : ¬ (st4 xs crt a = false ∨ xs.length < a + 20) := by
      intro z
      have : (!st4 xs crt a || decide (xs.length < a + 20)) = true := by simpa using z
      rw [hb1] at this
      cases this
    have hA : a + 20 ≤ xs.length := by
      rcases Nat.lt_or_ge xs.length (a + 20) with z | z
      · exact absurd (.inr z) hb1'
      · exact z
    have e2 := lowN_cast (bytes_sub hb (a + 6) 2)
    have e16 := lowN_cast (bytes_sub hb (a + 16) 4)
    refine r_set 2 gd ((v_add (v_add (v_var 1 rfl) (v_gint T.headSize)) (v_call cL (hr.mono (by decide)) (a_cons (n_slI (a + 6) 2 (v_var 0 rfl).lv (v_add (v_var 1 rfl) v_int) (v_add (v_var 1 rfl) v_int)).ev a_nil) ⟨_, rfl, rfl⟩)).n (firstOf xs a) (by unfold firstOf; omega)) ?_
    refine r_ifL ((t_gt (v_var 2 rfl) (v_lenL T.len (v_var 0 rfl).lv)).to (b2 := decide (xs.length < firstOf xs a)) (by rw [hlen]; apply decide_eq_decide.mpr; omega)) (fun hb2 => ?_) (fun hb2 => ?_)
    · refine r_ret (v_non.to ?_) k
      unfold headAt
      rw [if_neg hb1', if_pos (of_decide_eq_true hb2)] <;> rfl
    · have hb2' := of_decide_eq_false hb2
      refine r_set 3 gd ((v_add (v_var 2 rfl) (v_call cL (hr.mono (by decide)) (a_cons (n_slI (a + 16) 4 (v_var 0 rfl).lv (v_add (v_var 1 rfl) v_int) (v_add (v_var 1 rfl) (v_gint T.headSize))).ev a_nil) ⟨_, rfl, rfl⟩)).n (stopOf xs a) (by unfold stopOf; omega)) ?_
      refine r_set 4 gd (v_call cL (hr.mono (by decide)) (a_cons (n_slI (a + 8) 4 (v_var 0 rfl).lv (v_add (v_var 1 rfl) v_int) (v_add (v_var 1 rfl) v_int)).ev a_nil) ⟨_, rfl, rfl⟩) ?_
      refine r_set 5 gd (v_call cL (hr.mono (by decide)) (a_cons (n_slI (a + 12) 4 (v_var 0 rfl).lv (v_add (v_var 1 rfl) v_int) (v_add (v_var 1 rfl) v_int)).ev a_nil) ⟨_, rfl, rfl⟩) ?_
      refine r_set 6 gd (v_tup (a_cons (n_slI (a + 20) (lowN ((xs.drop (a + 6)).take 2)) (v_var 0 rfl).lv (v_add (v_var 1 rfl) (v_gint T.headSize)) (v_var 2 rfl) (by omega) (by unfold firstOf; omega)).ev
        (a_cons (v_ixL (j := a + 4) (d := .int (xs.getD (a + 4) 0)) (v_var 0 rfl).lv ((v_add (v_var 1 rfl) v_int).n (a + 4)) ?_) (a_cons (v_var 4 rfl) (a_cons (v_var 5 rfl) (a_cons (v_tupL T.tuple (n_slI (firstOf xs a) (lowN ((xs.drop (a + 16)).take 4)) (v_var 0 rfl).lv (v_var 2 rfl) (v_var 3 rfl) rfl (by unfold stopOf; omega)).lv) a_nil)))))) ?_
      · rw [List.getElem?_map, List.getD_eq_getElem?_getD, List.getElem?_eq_getElem (by omega)] <;> rfl
      · refine r_ret (Ev.to (v_tup (a_cons (v_var 6 rfl) (a_cons (v_le (v_var 3 rfl) (v_lenL T.len (v_var 0 rfl).lv)) (a_cons (v_min gd.calm T.min (a_cons (v_var 3 rfl) (a_cons (v_lenL T.len (v_var 0 rfl).lv) a_nil))) a_nil)))) ?_) k
        unfold headAt
        rw [if_neg hb1', if_neg hb2', hlen]
        show PyData.tuple [_, PyData.bool (decide ((stopOf xs a : Int) ≤ (xs.length : Int))), PyData.int (if (xs.length : Int) < (stopOf xs a : Int) then (xs.length : Int) else (stopOf xs a : Int))] = PyData.tuple [_, PyData.bool (decide (stopOf xs a ≤ xs.length)), PyData.int ((min (stopOf xs a) xs.length : Nat) : Int)]
        have e1 : decide ((stopOf xs a : Int) ≤ (xs.length : Int)) = decide (stopOf xs a ≤ xs.length) := decide_eq_decide.mpr (by omega)
        have e3 : (if (xs.length : Int) < (stopOf xs a : Int) then (xs.length : Int) else (stopOf xs a : Int)) = ((min (stopOf xs a) xs.length : Nat) : Int) := by
          split <;> omega
        rw [e1, e3]
        rfl
theorem ok_dir (T : Gs K mg) (F : Fun K "directory_entries" "directory_entries" sDir f fd) (cS : CalD P w K mg base 1 "stands_at" ["data", "sign", "at"] preSt) (cL : CalD P w K mg base 1 "low_number" ["data"] preLow) (cH : CalD P w K mg base 2 "head_at" ["data", "at"] preHead) : FnOk P w K mg base CX0 3 f fd ["data", "place"] (spD K preDir) := by
  refine okD F scDir (fun ds d ⟨_, _, e, _⟩ => by rw [e]; rfl) (by decide) fun cdv A outer s H E hr gd ds d hp Ge He Q k => ?_
  obtain ⟨xs, pl, rfl, hb, hl, hpl, rfl⟩ := hp
  have e6 := lowN_cast (bytes_sub hb (pl + 6) 4)
  have e4 := lowN_cast (bytes_sub hb (pl + 4) 2)
  have b4 := lowN_two hb (pl + 4)
  refine r_own 2 gd (n_lst a_nil) ?_
  refine r_set 3 gd ((v_sub (v_var 1 rfl) (v_call cL (hr.mono (by decide)) (a_cons (n_slI (pl + 6) 4 (v_var 0 rfl).lv (v_add (v_var 1 rfl) v_int) (v_add (v_var 1 rfl) (v_gint T.recSize))).ev a_nil) ⟨_, rfl, rfl⟩)).n (pl - lowN ((xs.drop (pl + 6)).take 4)) (by omega)) ?_
  refine r_for gd (i_range T.range (n := (lowN ((xs.drop (pl + 4)).take 2) : Int)) ((v_call cL (hr.mono (by decide)) (a_cons (n_slI (pl + 4) 2 (v_var 0 rfl).lv (v_add (v_var 1 rfl) v_int) (v_add (v_var 1 rfl) v_int)).ev a_nil) ⟨_, rfl, rfl⟩).n _ e4) (by omega) (by omega))
    (fun i es => ∃ (fs : List Fd) (a : Nat) (z4 z5 z6 z7 z8 z9 : Sl), es = [.pur (il xs), .pur (.int pl), .own (fs.map Fd.py), .pur (.int a), z4, z5, z6, z7, z8, z9] ∧ fs ++ dirGo xs pl (lowN ((xs.drop (pl + 4)).take 2) - i) a = dirs xs pl ∧ fs.length ≤ i)
    (fun es => ∃ (z3 z4 z5 z6 z7 z8 z9 : Sl), es = [.pur (il xs), .pur (.int pl), .own ((dirs xs pl).map Fd.py), z3, z4, z5, z6, z7, z8, z9]) [4]
    ⟨[], _, .emp, .emp, .emp, .emp, .emp, .emp, rfl, rfl, Nat.le_refl _⟩ ?_ ?_
  · rintro i d es1 hi ⟨fs, a, z4, z5, z6, z7, z8, z9, rfl, hinv, hfs⟩
    have hi' : i < lowN ((xs.drop (pl + 4)).take 2) := by
      have := (List.getElem?_eq_some_iff.mp hi).1
      simpa using this
    obtain ⟨m, hm⟩ : ∃ m, lowN ((xs.drop (pl + 4)).take 2) - i = m + 1 := ⟨lowN ((xs.drop (pl + 4)).take 2) - i - 1, by omega⟩
    rw [hm] at hinv
    have hm' : lowN ((xs.drop (pl + 4)).take 2) - (i + 1) = m := by omega
    have h8 := lowN_cast (bytes_sub hb (a + 8) 2)
    have h4 := lowN_cast (bytes_sub hb (a + 4) 4)
    refine ⟨_, g_name 4 gd.nd (by decide), ?_⟩
    refine r_ifL (t_not (t_val (v_call cS (hr.mono (by decide)) (a_cons (v_var 0 rfl) (a_cons (v_gtup T.recS) (a_cons (v_var 3 rfl) a_nil))) ⟨xs, _, a, rfl, by decide, rfl⟩))) (fun hb1 => ?_) (fun hb1 => ?_)
    · have hb1' : st4 xs cdir a = false := by simpa using (show (!st4 xs cdir a) = true from hb1)
      have e : fs = dirs xs pl := by rw [← hinv, dirGo, if_neg (by unfold recOk; rw [hb1', Bool.false_and]; decide), List.append_nil]
      rw [e]
      exact r_break (Wk.refl _) ⟨_, _, _, _, _, _, _, rfl⟩
    · have hb1' : st4 xs cdir a = true := by simpa using (show (!st4 xs cdir a) = false from hb1)
      refine r_set 5 gd ((v_add (v_add (v_var 3 rfl) (v_gint T.recSize)) (v_call cL (hr.mono (by decide)) (a_cons (n_slI (a + 8) 2 (v_var 0 rfl).lv (v_add (v_var 3 rfl) v_int) (v_add (v_var 3 rfl) (v_gint T.recSize))).ev a_nil) ⟨_, rfl, rfl⟩)).n (behindOf xs a) (by unfold behindOf; omega)) ?_
      refine r_set 6 gd ((v_call cL (hr.mono (by decide)) (a_cons (n_slI (a + 4) 4 (v_var 0 rfl).lv (v_add (v_var 3 rfl) v_int) (v_add (v_var 3 rfl) v_int)).ev a_nil) ⟨_, rfl, rfl⟩).n (distOf xs a) (by unfold distOf; omega)) ?_
      refine r_ifL (b := decide (pl < behindOf xs a) || (decide (pl < a + 10) || decide (pl < distOf xs a)))
        ((w_or ((t_gt (v_var 5 rfl) (v_var 1 rfl)).to (decide_eq_decide.mpr (by omega))) fun _ => w_or ((t_gt (v_add (v_var 3 rfl) (v_gint T.recSize)) (v_var 1 rfl)).to (decide_eq_decide.mpr (by omega))) fun _ => w_or1 ((t_gt (v_var 6 rfl) (v_var 1 rfl)).to (decide_eq_decide.mpr (by omega)))).tv) (fun hb2 => ?_) (fun hb2 => ?_)
      · have e : fs = dirs xs pl := by rw [← hinv, dirGo, if_neg (by unfold recOk; rw [hb2, Bool.not_true, Bool.and_false]; decide), List.append_nil]
        rw [e]
        exact r_break (Wk.refl _) ⟨_, _, _, _, _, _, _, rfl⟩
      · have hok : recOk xs pl a = true := by unfold recOk; rw [hb1', hb2]; rfl
        have hle : distOf xs a ≤ pl := by
          have : decide (pl < distOf xs a) = false := by
            cases q : decide (pl < distOf xs a) with
            | false => rfl
            | true => rw [q, Bool.or_true, Bool.or_true] at hb2; cases hb2
          have := of_decide_eq_false this
          omega
        rw [dirGo, if_pos hok] at hinv
        refine r_set 7 gd (v_call cH (hr.mono (by decide)) (a_cons (v_var 0 rfl) (a_cons ((v_sub (v_var 1 rfl) (v_var 6 rfl)).n (pl - distOf xs a)) a_nil)) ⟨xs, _, rfl, hb, hl, rfl⟩) ?_
        have done : ∀ (gs : List Fd) (z4 z5 z6 z7 z8 z9 : Sl), gs = recFd xs pl a → gs.length ≤ 1 → ∃ (fs' : List Fd) (a' : Nat) (y4 y5 y6 y7 y8 y9 : Sl), [Sl.pur (il xs), .pur (.int pl), .own ((fs ++ gs).map Fd.py), .pur (.int (behindOf xs a)), z4, z5, z6, z7, z8, z9] = [.pur (il xs), .pur (.int pl), .own (fs'.map Fd.py), .pur (.int a'), y4, y5, y6, y7, y8, y9] ∧
            fs' ++ dirGo xs pl (lowN ((xs.drop (pl + 4)).take 2) - (i + 1)) a' = dirs xs pl ∧ fs'.length ≤ i + 1 := fun gs z4 z5 z6 z7 z8 z9 e1 e2 =>
          ⟨fs ++ gs, _, _, _, _, _, _, _, rfl, by rw [hm', e1, List.append_assoc]; exact hinv, by rw [List.length_append]; omega⟩
        cases eh : headAt xs (pl - distOf xs a) with
        | none =>
          have er : recFd xs pl a = [] := by unfold recFd; rw [eh]
          refine r_ifL (b := false && false) (w_and (t_notN (v_var 7 rfl) (x := false) (by rfl)) fun z => nomatch z).tv (fun z => nomatch z) fun _ => ?_
          refine r_set 3 gd (v_var 5 rfl) ?_
          have dn := done [] (.pur d) (.pur (.int (behindOf xs a))) (.pur (.int (distOf xs a))) (.pur (hpy none)) z8 z9 er.symm (by decide)
          rw [List.append_nil] at dn
          exact r_nil (Wk.refl _) dn
        | some h =>
          cases hw : h.whole with
          | false =>
            have er : recFd xs pl a = [] := by unfold recFd; rw [eh]; simp [hw]
            refine r_ifL (b := true && false) (w_and (t_notN (v_var 7 rfl) (x := true) (by rfl)) fun _ => w_and1 (t_val (v_ixT (j := 1) (v_var 7 rfl) v_int (by show some (PyData.bool h.whole) = _; rw [hw])))).tv (fun z => nomatch z) fun _ => ?_
            refine r_set 3 gd (v_var 5 rfl) ?_
            have dn := done [] (.pur d) (.pur (.int (behindOf xs a))) (.pur (.int (distOf xs a))) (.pur (hpy (some h))) z8 z9 er.symm (by decide)
            rw [List.append_nil] at dn
            exact r_nil (Wk.refl _) dn
          | true =>
            have er : recFd xs pl a = [⟨{ h.en with name := (xs.drop (a + 10)).take (lowN ((xs.drop (a + 8)).take 2)) }, pl - distOf xs a, h.stop⟩] := by unfold recFd; rw [eh]; simp [hw]
            refine r_if (b := true && true) (fun es => ∃ z8 z9, es = [.pur (il xs), .pur (.int pl), .own ((fs ++ recFd xs pl a).map Fd.py), .pur (.int a), .pur d, .pur (.int (behindOf xs a)), .pur (.int (distOf xs a)), .pur (hpy (some h)), z8, z9])
              (w_and (t_notN (v_var 7 rfl) (x := true) (by rfl)) fun _ => w_and1 (t_val (v_ixT (j := 1) (v_var 7 rfl) v_int (by show some (PyData.bool h.whole) = _; rw [hw])))).tv (fun _ => ?_) (fun z => nomatch z) fun es' ⟨z8, z9, e⟩ => ?_
            · refine r_set 8 gd (v_ixT (j := 0) (v_var 7 rfl) v_int rfl) ?_
              refine r_set 9 gd (n_slI (a + 10) (lowN ((xs.drop (a + 8)).take 2)) (v_var 0 rfl).lv (v_add (v_var 3 rfl) (v_gint T.recSize)) (v_var 5 rfl) (by omega) (by unfold behindOf; omega)).ev ?_
              refine r_app 2 gd rfl (v_tup (a_cons (v_tup (a_cons (v_var 9 rfl) (a_cons (v_ixT (j := 1) (v_var 8 rfl) v_int rfl) (a_cons (v_ixT (j := 2) (v_var 8 rfl) v_int rfl) (a_cons (v_ixT (j := 3) (v_var 8 rfl) v_int rfl) (a_cons (v_ixT (j := 4) (v_var 8 rfl) v_int rfl) a_nil)))))) (a_cons ((v_sub (v_var 1 rfl) (v_var 6 rfl)).n (pl - distOf xs a)) (a_cons (v_ixT (j := 2) (v_var 7 rfl) v_int rfl) a_nil)))) (by rw [List.length_map]; omega) ?_
              rw [er, List.map_append]
              exact r_nil (Wk.refl _) ⟨_, _, rfl⟩
            · subst e
              refine r_set 3 gd (v_var 5 rfl) ?_
              exact r_nil (Wk.refl _) (done _ _ _ _ _ _ _ rfl (by rw [er]; exact Nat.le_refl 1))
  · rintro es1 (⟨fs, a, z4, z5, z6, z7, z8, z9, rfl, hinv, hfs⟩ | ⟨z3, z4, z5, z6, z7, z8, z9, rfl⟩)
    · rw [List.length_map, List.length_range, Int.toNat_natCast, Nat.sub_self, dirGo, List.append_nil] at hinv
      refine r_frz 2 rfl (r_ret (v_var 2 rfl) ?_)
      rw [hinv]
      exact k
    · exact r_frz 2 rfl (r_ret (v_var 2 rfl) k)
theorem overGo_len : ∀ (fs kept : List Fd), (overGo kept fs).length ≤ kept.length + fs.length
  | [], kept => by rw [overGo_nil]; exact Nat.le_refl _
  | x :: r, kept => by
    rw [overGo_cons]
    split
    · have := overGo_len r kept
      rw [List.length_cons]
      omega
    · have := overGo_len r (kept ++ [x])
      rw [List.length_append] at this
      rw [List.length_cons]
      simp at this
      omega
theorem map_filter_fd (g : PyData → PyData) (h : Fd → PyData) (e : ∀ f : Fd, g f.py = h f) : ∀ fs : List Fd, ((fs.map Fd.py).filter fun _ => true).map g = fs.map h
  | [] => rfl
  | f :: fs => by
    rw [List.map_cons, List.filter_cons, if_pos rfl, List.map_cons, List.map_cons, e, map_filter_fd g h e fs]
theorem ok_over (T : Gs K mg) (F : Fun K "without_overlaps" "without_overlaps" sOver f fd) : FnOk P w K mg base CX0 1 f fd ["found"] (spD K preOver) := by
  refine okD F scOver (fun ds d ⟨_, e, _⟩ => by rw [e]; rfl) (by decide) fun cdv A outer s H E hr gd ds d hp Ge He Q k => ?_
  obtain ⟨fs, rfl, hl, rfl⟩ := hp
  refine r_own 1 gd (n_lst a_nil) ?_
  refine r_for gd (i_list (v_var 0 rfl)) (fun i es => ∃ (ks : List Fd) (z2 z3 z4 z5 z6 : Sl), es = [.pur (.list (fs.map Fd.py)), .own (ks.map Fd.py), z2, z3, z4, z5, z6] ∧ overGo ks (fs.drop i) = overGo [] fs ∧ ks.length ≤ i) (fun _ => False) [2, 3, 4]
    ⟨[], .emp, .emp, .emp, .emp, .emp, rfl, rfl, Nat.le_refl _⟩ ?_ ?_
  · rintro i d es1 hi ⟨ks, z2, z3, z4, z5, z6, rfl, hinv, hks⟩
    rw [List.getElem?_map] at hi
    obtain ⟨x, hx, rfl⟩ := Option.map_eq_some_iff.mp hi
    have hil : i < fs.length := (List.getElem?_eq_some_iff.mp hx).1
    have hd : fs.drop i = x :: fs.drop (i + 1) := by
      rw [List.drop_eq_getElem_cons hil]
      congr 1
      exact (List.getElem?_eq_some_iff.mp hx).2
    rw [hd, overGo_cons] at hinv
    refine ⟨_, g_tup (ds := [x.en.py, .int x.start, .int x.stop]) gd.calm (gs_cons (g_name 2 gd.nd (by decide)) (gs_cons (g_name 3 gd.nd (by decide)) (gs_cons (g_name 4 gd.nd (by decide)) gs_nil))), ?_⟩
    refine r_if (b := !(ks.any (clash x))) (fun es => ∃ (ks : List Fd) (z2 z3 z4 z5 z6 : Sl), es = [.pur (.list (fs.map Fd.py)), .own (ks.map Fd.py), z2, z3, z4, z5, z6] ∧ overGo ks (fs.drop (i + 1)) = overGo [] fs ∧ ks.length ≤ i + 1)
      (t_not ((t_val (v_any (bs := ks.map (clash x)) gd.calm T.any ((n_lcC [("other", 5)] gd (fun d => [.pur (.list (fs.map Fd.py)), .own (ks.map Fd.py), .pur x.en.py, .pur (.int x.start), .pur (.int x.stop), .pur d, z6]) (fun _ => true) (fun d => match d with | .tuple [_, .int a, .int b] => .bool (decide ((x.start : Int) < b) && decide (a < (x.stop : Int))) | _ => .none)
        (i_lv (l_own 1 rfl)) (blkOk_by (N := ["found", "kept", "entry", "start", "end", "other", "item"]) (sc := defScope sOver) (by decide +kernel)) (fun _ _ _ _ _ d _ => gb_name 5 gd) (fun _ _ _ _ _ d hd => s_nil) (fun _ _ _ _ _ d hd hf => ?_) (by rw [List.length_map]; omega)).lv.to ?_))).to ?_)) (fun h => ?_) (fun h => ?_) (fun es' h => r_nil (Wk.refl _) h)
    · obtain ⟨o, _, rfl⟩ := List.mem_map.mp hd
      exact v_and (v_lt (v_var 3 rfl) (v_ixT (j := 2) (v_var 5 rfl) v_int rfl)) fun _ => v_one (v_lt (v_ixT (j := 1) (v_var 5 rfl) v_int rfl) (v_var 4 rfl))
    · rw [List.map_map]
      refine map_filter_fd _ _ (fun o => ?_) ks
      show PyData.bool (decide ((x.start : Int) < (o.stop : Int)) && decide ((o.start : Int) < (x.stop : Int))) = PyData.bool (clash x o)
      unfold clash
      rw [decide_eq_decide.mpr (show (x.start : Int) < (o.stop : Int) ↔ x.start < o.stop by omega), decide_eq_decide.mpr (show (o.start : Int) < (x.stop : Int) ↔ o.start < x.stop by omega)]
    · rw [List.any_map]
      rfl
    · have h' : ¬ ks.any (clash x) = true := by simpa using h
      rw [if_neg h'] at hinv
      refine r_app 1 gd rfl (v_tup (a_cons (v_var 2 rfl) (a_cons (v_var 3 rfl) (a_cons (v_var 4 rfl) a_nil)))) (by rw [List.length_map]; omega) ?_
      refine r_nil (Wk.refl _) ⟨ks ++ [x], .pur x.en.py, .pur (.int x.start), .pur (.int x.stop), z5, z6, ?_, hinv, by rw [List.length_append]; simp; omega⟩
      rw [List.map_append]
      rfl
    · have h' : ks.any (clash x) = true := by simpa using h
      rw [if_pos h'] at hinv
      exact r_nil (Wk.refl _) ⟨ks, _, _, _, _, _, rfl, hinv, by omega⟩
  · rintro es1 (⟨ks, z2, z3, z4, z5, z6, rfl, hinv, hks⟩ | h)
    · rw [List.length_map] at hinv hks
      rw [List.drop_length, overGo_nil] at hinv
      refine r_frz 1 rfl ?_
      refine r_ret (Nv.ev (Nv.to (n_lc [("item", 6)] gd (fun d => [.pur (.list (fs.map Fd.py)), .pur (.list (ks.map Fd.py)), z2, z3, z4, z5, .pur d]) (fun _ => true) (fun d => match d with | .tuple [e, _, _] => e | _ => .none)
        (i_list (v_var 1 rfl)) (blkOk_by (N := ["found", "kept", "entry", "start", "end", "other", "item"]) (sc := defScope sOver) (by decide +kernel)) (fun _ _ _ _ _ d _ => gb_name 6 gd) (fun _ _ _ _ _ d hd => s_nil) (fun _ _ _ _ _ d hd hf => ?_) (by rw [List.length_map]; omega)) (ys := ks.map fun f => f.en.py) ?_)) ?_
      · obtain ⟨o, _, rfl⟩ := List.mem_map.mp hd
        exact v_ixT (j := 0) (v_var 6 rfl) v_int rfl
      · exact map_filter_fd _ _ (fun o => rfl) ks
      · rw [hinv]
        exact k
    · exact h.elim
theorem search_fuel (xs : List Int) : ∀ (n m a : Nat), xs.length - a ≤ n → xs.length - a ≤ m → searchGo xs n a = searchGo xs m a
  | 0, 0, a, _, _ => rfl
  | 0, m + 1, a, h, _ => by
    rw [searchGo, searchGo, if_neg (by omega)]
  | n + 1, 0, a, _, h => by
    rw [searchGo, searchGo, if_neg (by omega)]
  | n + 1, m + 1, a, h1, h2 => by
    rw [searchGo, searchGo]
    by_cases q : a < xs.length
    · rw [if_pos q, if_pos q]
      cases e : headAt xs a with
      | none => exact search_fuel xs n m (a + 1) (by omega) (by omega)
      | some h =>
        have hs := headAt_stop e
        show h.en :: searchGo xs n h.stop = h.en :: searchGo xs m h.stop
        rw [search_fuel xs n m h.stop (by omega) (by omega)]
    · rw [if_neg q, if_neg q]
theorem search_step {xs : List Int} {a : Nat} (h : a < xs.length) : searchGo xs xs.length a = (match headAt xs a with
    | none => searchGo xs xs.length (a + 1)
    | some h => h.en :: searchGo xs xs.length h.stop) := by
  obtain ⟨n, hn⟩ : ∃ n, xs.length = n + 1 := ⟨xs.length - 1, by omega⟩
  have e0 : searchGo xs xs.length a = searchGo xs (n + 1) a := by rw [← hn]
  rw [e0, searchGo, if_pos h]
  cases e : headAt xs a with
  | none => exact search_fuel xs _ _ _ (by omega) (by omega)
  | some hd =>
    have hs := headAt_stop e
    show hd.en :: searchGo xs n hd.stop = hd.en :: searchGo xs xs.length hd.stop
    rw [search_fuel xs n xs.length hd.stop (by omega) (by omega)]
theorem search_end {xs : List Int} {a : Nat} (h : ¬ a < xs.length) : searchGo xs xs.length a = [] := by
  rw [search_fuel xs xs.length 0 a (by omega) (by omega)] <;> rfl
theorem ok_search (T : Gs K mg) (F : Fun K "searched_entries" "searched_entries" sSearch f fd) (cH : CalD P w K mg base 2 "head_at" ["data", "at"] preHead) : FnOk P w K mg base CX0 3 f fd ["data"] (spD K preSearch) := by
  refine okD F scSearch (fun ds d ⟨_, e, _⟩ => by rw [e]; rfl) (by decide) fun cdv A outer s H E hr gd ds d hp Ge He Q k => ?_
  obtain ⟨xs, rfl, hb, hl, rfl⟩ := hp
  have hlen : ((xs.map PyData.int).length : Int) = (xs.length : Int) := by rw [List.length_map]
  refine r_own 1 gd (n_lst a_nil) ?_
  refine r_set 2 gd (v_int.n 0) ?_
  refine r_while gd (fun m es => ∃ (acc : List En) (a : Nat) (z3 : Sl), es = [.pur (il xs), .own (acc.map En.py), .pur (.int a), z3] ∧ acc ++ searchGo xs xs.length a = searchGo xs xs.length 0 ∧ m = xs.length - a ∧ acc.length ≤ a)
    (fun _ => False) (fun es => ∃ (z2 z3 : Sl), es = [.pur (il xs), .own ((searchGo xs xs.length 0).map En.py), z2, z3]) xs.length ⟨[], 0, .emp, rfl, rfl, by omega, Nat.le_refl _⟩ ?_ ?_
  · rintro m es1 ⟨acc, a, z3, rfl, hinv, rfl, hacc⟩
    refine ⟨decide (a < xs.length), (t_lt (v_var 2 rfl) (v_lenL T.len (v_var 0 rfl).lv)).to (by rw [hlen]; exact decide_eq_decide.mpr (by omega)), fun hb1 => ?_, fun hb1 => ?_⟩
    · have hlt := of_decide_eq_true hb1
      rw [search_step hlt] at hinv
      refine r_set 3 gd (v_call cH (hr.mono (by decide)) (a_cons (v_var 0 rfl) (a_cons (v_var 2 rfl) a_nil)) ⟨xs, a, rfl, hb, hl, rfl⟩) ?_
      cases eh : headAt xs a with
      | none =>
        rw [eh] at hinv
        refine r_if (b := true) (fun es => ∃ z3, es = [.pur (il xs), .own (acc.map En.py), .pur (.int ((a + 1 : Nat) : Int)), z3]) (t_isN (v_var 3 rfl) (by rfl)) (fun _ => ?_) (fun z => nomatch z) fun es' ⟨z, e⟩ => ?_
        · refine r_set 2 gd ((v_add (v_var 2 rfl) v_int).n (a + 1)) ?_
          exact r_nil (Wk.refl _) ⟨_, rfl⟩
        · subst e
          exact r_nil (Wk.refl _) ⟨xs.length - (a + 1), by omega, acc, a + 1, _, rfl, hinv, rfl, by omega⟩
      | some h =>
        rw [eh] at hinv
        have hs := headAt_stop eh
        refine r_if (b := false) (fun es => ∃ z3, es = [.pur (il xs), .own ((acc ++ [h.en]).map En.py), .pur (.int (h.stop : Int)), z3]) (t_isN (v_var 3 rfl) (by rfl)) (fun z => nomatch z) (fun _ => ?_) fun es' ⟨z, e⟩ => ?_
        · refine r_app 1 gd rfl (v_ixT (j := 0) (v_var 3 rfl) v_int rfl) (by rw [List.length_map]; omega) ?_
          refine r_set 2 gd (v_ixT (j := 2) (v_var 3 rfl) v_int rfl) ?_
          rw [List.map_append]
          exact r_nil (Wk.refl _) ⟨_, rfl⟩
        · subst e
          exact r_nil (Wk.refl _) ⟨xs.length - h.stop, by omega, acc ++ [h.en], h.stop, _, rfl, by rw [List.append_assoc]; exact hinv, rfl, by rw [List.length_append]; simp; omega⟩
    · have hlt := of_decide_eq_false hb1
      rw [search_end hlt, List.append_nil] at hinv
      rw [← hinv]
      exact ⟨_, _, rfl⟩
  · rintro es1 (⟨z2, z3, rfl⟩ | h)
    · exact r_frz 1 rfl (r_ret (v_var 1 rfl) k)
    · exact h.elim
end
end K9
namespace K9
open PySem PySem.Spec PyProof.Rows L2 Evl
theorem map_true {α : Type} (py : α → PyData) (g : PyData → PyData) (h : α → PyData) : ∀ l : List α, (∀ x ∈ l, g (py x) = h x) → ((l.map py).filter fun _ => true).map g = l.map h
  | [], _ => rfl
  | x :: l, e => by
    rw [List.map_cons, List.filter_cons, if_pos rfl, List.map_cons, List.map_cons, e x (List.mem_cons_self ..), map_true py g h l fun y hy => e y (List.mem_cons_of_mem _ hy)]
/-! ### opening -/
structure Ep where
  name : List Nat
  meth : Int
  size : Int
  total : Int
  part : List Int
def Ep.py (e : Ep) : PyData := .tuple [.str (tx e.name), .int e.meth, .int e.size, .int e.total, .tuple (e.part.map PyData.int)]
def plainE (e : En) : Ep := ⟨plainName e.name, e.meth, e.size, e.total, e.part⟩
def lastOf : List Ep → List Ep
  | [] => []
  | e :: r => if e.name ∈ r.map Ep.name then lastOf r else e :: lastOf r
def founds (xs : List Int) : List Fd := if 0 ≤ lastEnd xs then dirs xs (lastEnd xs).toNat else []
def cands (xs : List Int) : List En := if (founds xs).isEmpty = true then searchGo xs xs.length 0 else (overGo [] (founds xs)).map Fd.en
def openC (xs : List Int) : List Ep := (lastOf ((cands xs).map plainE)).take 64
def preOpen (ds : List PyData) (d : PyData) : Prop := ∃ (xs : List Int) (left : Int), ds = [il xs, .int left] ∧ bytes xs ∧ xs.length ≤ 60000 ∧ 1 + (xs.length : Int) ≤ left ∧ d = .tuple [.list ((openC xs).map Ep.py), .int (left - (1 + xs.length))]
theorem lastGo_end {xs : List Int} : ∀ n, 0 ≤ lastGo xs n → ∃ a : Nat, lastGo xs n = a ∧ a < n ∧ isEnd xs a = true
  | 0, h => by
    rw [lastGo] at h
    omega
  | n + 1, h => by
    rw [lastGo] at h ⊢
    by_cases q : isEnd xs n = true
    · rw [if_pos q]
      exact ⟨n, rfl, Nat.lt_succ_self _, q⟩
    · rw [if_neg q] at h ⊢
      obtain ⟨a, e, l, he⟩ := lastGo_end n h
      exact ⟨a, e, Nat.lt_succ_of_lt l, he⟩
theorem lastEnd_ok {xs : List Int} (hb : bytes xs) (h : 0 ≤ lastEnd xs) : ∃ a : Nat, lastEnd xs = a ∧ a + 9 < xs.length ∧ isEnd xs a = true ∧ lowN ((xs.drop (a + 6)).take 4) ≤ a := by
  obtain ⟨a, e, l, he⟩ := lastGo_end _ h
  refine ⟨a, e, by omega, he, ?_⟩
  unfold isEnd at he
  rw [Bool.and_eq_true] at he
  have := of_decide_eq_true he.2
  rw [lowN_cast (bytes_sub hb _ _)] at this
  omega
theorem headAt_name {xs : List Int} {a : Nat} {h : Hd} (e : headAt xs a = some h) : h.en.name.length ≤ xs.length := by
  unfold headAt at e
  split at e
  · cases e
  split at e
  · cases e
  cases e
  show ((xs.drop (a + 20)).take _).length ≤ _
  rw [List.length_take, List.length_drop]
  omega
theorem recFd_name {xs : List Int} {pl a : Nat} : ∀ f ∈ recFd xs pl a, f.en.name.length ≤ xs.length := by
  intro f hf
  unfold recFd at hf
  split at hf
  · split at hf
    · rw [List.mem_singleton] at hf
      subst hf
      show ((xs.drop (a + 10)).take _).length ≤ _
      rw [List.length_take, List.length_drop]
      omega
    · cases hf
  · cases hf
theorem recFd_len {xs : List Int} {pl a : Nat} : (recFd xs pl a).length ≤ 1 := by
  unfold recFd
  split
  · split
    · exact Nat.le_refl _
    · exact Nat.zero_le _
  · exact Nat.zero_le _
theorem dirGo_name {xs : List Int} {pl : Nat} : ∀ (n a : Nat), (∀ f ∈ dirGo xs pl n a, f.en.name.length ≤ xs.length) ∧ (dirGo xs pl n a).length ≤ n
  | 0, a => ⟨fun f hf => (by rw [dirGo] at hf; cases hf), Nat.le_refl _⟩
  | n + 1, a => by
    rw [dirGo]
    split
    · obtain ⟨h1, h2⟩ := dirGo_name n (behindOf xs a)
      refine ⟨fun f hf => ?_, ?_⟩
      · rcases List.mem_append.mp hf with z | z
        · exact recFd_name f z
        · exact h1 f z
      · rw [List.length_append]
        have := recFd_len (xs := xs) (pl := pl) (a := a)
        omega
    · exact ⟨fun f hf => (nomatch hf), Nat.zero_le _⟩
theorem over_sub : ∀ (fs kept : List Fd) (f : Fd), f ∈ overGo kept fs → f ∈ kept ∨ f ∈ fs
  | [], kept, f, h => by
    rw [overGo_nil] at h
    exact .inl h
  | x :: r, kept, f, h => by
    rw [overGo_cons] at h
    split at h
    · rcases over_sub r kept f h with z | z
      · exact .inl z
      · exact .inr (List.mem_cons_of_mem _ z)
    · rcases over_sub r _ f h with z | z
      · rcases List.mem_append.mp z with z | z
        · exact .inl z
        · rw [List.mem_singleton] at z
          exact .inr (z ▸ List.mem_cons_self ..)
      · exact .inr (List.mem_cons_of_mem _ z)
theorem search_name {xs : List Int} : ∀ (n a : Nat), (∀ e ∈ searchGo xs n a, e.name.length ≤ xs.length) ∧ (searchGo xs n a).length ≤ n
  | 0, a => ⟨fun f hf => (by rw [searchGo] at hf; cases hf), Nat.le_refl _⟩
  | n + 1, a => by
    rw [searchGo]
    split
    · cases e : headAt xs a with
      | none =>
        obtain ⟨h1, h2⟩ := search_name (xs := xs) n (a + 1)
        exact ⟨h1, by show (searchGo xs n (a + 1)).length ≤ n + 1; omega⟩
      | some h =>
        obtain ⟨h1, h2⟩ := search_name (xs := xs) n h.stop
        refine ⟨fun f hf => ?_, by show (searchGo xs n h.stop).length + 1 ≤ n + 1; omega⟩
        rcases List.mem_cons.mp hf with z | z
        · rw [z]
          exact headAt_name e
        · exact h1 f z
    · exact ⟨fun f hf => (nomatch hf), Nat.zero_le _⟩
theorem founds_len {xs : List Int} (hb : bytes xs) : (∀ f ∈ founds xs, f.en.name.length ≤ xs.length) ∧ (founds xs).length ≤ 65535 := by
  unfold founds
  split
  · obtain ⟨h1, h2⟩ := dirGo_name (xs := xs) (pl := (lastEnd xs).toNat) (lowN ((xs.drop ((lastEnd xs).toNat + 4)).take 2)) ((lastEnd xs).toNat - lowN ((xs.drop ((lastEnd xs).toNat + 6)).take 4))
    have h3 := lowN_two hb ((lastEnd xs).toNat + 4)
    exact ⟨h1, by unfold dirs; omega⟩
  · exact ⟨fun f hf => (nomatch hf), Nat.zero_le _⟩
theorem cands_len {xs : List Int} (hb : bytes xs) (hl : xs.length ≤ 60000) : (∀ e ∈ cands xs, e.name.length ≤ xs.length) ∧ (cands xs).length ≤ 65535 := by
  unfold cands
  split
  · obtain ⟨h1, h2⟩ := search_name (xs := xs) xs.length 0
    exact ⟨h1, by omega⟩
  · obtain ⟨h1, h2⟩ := founds_len hb
    refine ⟨fun e he => ?_, ?_⟩
    · obtain ⟨f, hf, rfl⟩ := List.mem_map.mp he
      rcases over_sub _ _ f hf with z | z
      · cases z
      · exact h1 f z
    · rw [List.length_map]
      have := overGo_len (founds xs) []
      simp at this
      omega
theorem fd_plain (f : Fd) : f.py.plain = true := by
  have h := plainAll_ints f.en.name
  have h2 := plainAll_ints f.en.part
  show PyData.plainAll [f.en.py, .int f.start, .int f.stop] = true
  simp only [PyData.plainAll, PyData.plain, En.py, h, h2, Bool.and_true, Bool.true_and, Bool.and_self]
theorem fd_depth (f : Fd) : f.py.depth ≤ 3 := by
  have h := depthAll_ints f.en.name
  have h2 := depthAll_ints f.en.part
  show PyData.depthAll [f.en.py, .int f.start, .int f.stop] + 1 ≤ 3
  simp only [PyData.depthAll, PyData.depth, En.py, h, h2]
  decide
def unI (ds : List PyData) : List Int := ds.map fun | .int i => i | _ => 0
theorem unI_ints : ∀ xs : List Int, unI (xs.map PyData.int) = xs
  | [] => rfl
  | x :: xs => by
    show x :: unI (xs.map PyData.int) = _
    rw [unI_ints xs]
theorem mapIdx_mem {α : Type} (F : Nat → α → PyData) (l : List α) (d : PyData) (h : d ∈ l.mapIdx F) : ∃ j x, l[j]? = some x ∧ d = F j x := by
  obtain ⟨j, hj⟩ := List.mem_iff_getElem?.mp h
  rw [List.getElem?_mapIdx] at hj
  obtain ⟨x, hx, e⟩ := Option.map_eq_some_iff.mp hj
  exact ⟨j, x, hx, e.symm⟩
theorem mapIdx_map' {α β γ : Type} (F : Nat → β → γ) (g : α → β) (l : List α) : (l.map g).mapIdx F = l.mapIdx fun j x => F j (g x) := by
  apply List.ext_getElem?
  intro j
  rw [List.getElem?_mapIdx, List.getElem?_mapIdx, List.getElem?_map]
  cases l[j]? <;> rfl
def keepF (ns : List Str) : PyData → Bool
  | .tuple [.int i, .tuple (.str nm :: _)] => !decide (nm ∈ ns.drop (i.toNat + 1))
  | _ => false
def keepG : PyData → PyData
  | .tuple [_, e] => e
  | _ => .none
theorem mem_tx (nm : List Nat) : ∀ l : List Ep, tx nm ∈ l.map (fun e => tx e.name) ↔ nm ∈ l.map Ep.name
  | [] => by simp
  | e :: l => by
    rw [List.map_cons, List.map_cons, List.mem_cons, List.mem_cons, mem_tx nm l]
    exact ⟨fun h => h.imp tx_inj id, fun h => h.imp (congrArg tx) id⟩
theorem kept_is : ∀ (suf pre : List Ep), ((suf.mapIdx fun j e => PyData.tuple [.int ((pre.length + j : Nat) : Int), e.py]).filter (keepF ((pre ++ suf).map fun e => tx e.name))).map keepG = (lastOf suf).map Ep.py
  | [], pre => rfl
  | e :: r, pre => by
    have ih := kept_is r (pre ++ [e])
    rw [List.mapIdx_cons, List.filter_cons, lastOf]
    have e1 : (r.mapIdx fun (j : Nat) (e : Ep) => PyData.tuple [.int ((pre.length + (j + 1) : Nat) : Int), e.py]) = r.mapIdx fun j e_1 => PyData.tuple [.int (((pre ++ [e]).length + j : Nat) : Int), e_1.py] := by
      apply List.ext_getElem?
      intro j
      rw [List.getElem?_mapIdx, List.getElem?_mapIdx]
      cases r[j]? with
      | none => rfl
      | some x =>
        rw [List.length_append]
        show some _ = some _
        rw [show pre.length + (j + 1) = pre.length + [e].length + j by simp; omega]
    have e2 : (pre ++ e :: r) = (pre ++ [e]) ++ r := by simp
    have e3 : keepF ((pre ++ e :: r).map fun e => tx e.name) (.tuple [.int ((pre.length + 0 : Nat) : Int), e.py]) = !decide (e.name ∈ r.map Ep.name) := by
      show (!decide (tx e.name ∈ ((pre ++ e :: r).map fun e => tx e.name).drop ((pre.length + 0 : Nat) + 1))) = _
      rw [e2, List.map_append, List.drop_left' (by simp)]
      rw [decide_eq_decide.mpr (mem_tx e.name r)]
    rw [e3, e1, e2]
    by_cases q : e.name ∈ r.map Ep.name
    · rw [decide_eq_true q, if_neg (by decide), if_pos q]
      exact ih
    · rw [decide_eq_false q, if_pos (by decide), if_neg q, List.map_cons, List.map_cons, ih]
      rfl
theorem lastOf_len : ∀ l : List Ep, (lastOf l).length ≤ l.length
  | [] => Nat.le_refl _
  | e :: r => by
    rw [lastOf]
    have := lastOf_len r
    split
    · rw [List.length_cons]; omega
    · rw [List.length_cons, List.length_cons]; omega
theorem scOpen : FnScope ["data", "left", "enough", "place", "found", "entries", "names", "kept", "name", "method", "size", "total", "part", "entry", "at"] ["data", "left"] (defScope sOpen) := ⟨rfl, rfl, rfl, by decide +kernel, rfl, by decide +kernel, by decide +kernel⟩
section
variable {P : Program} {w : World} {K : PySem.W.Frag} {mg : Str → Option Value} {base : Heap} {f : Addr} {fd : FuncData}
theorem ok_open (T : Gs K mg) (F : Fun K "open_crate" "open_crate" sOpen f fd) (cSp : CalD P w K mg base 1 "spend" ["left", "cost"] preSpend) (cLa : CalD P w K mg base 2 "last_end" ["data"] preLast) (cD : CalD P w K mg base 3 "directory_entries" ["data", "place"] preDir)
    (cO : CalD P w K mg base 1 "without_overlaps" ["found"] preOver) (cS : CalD P w K mg base 3 "searched_entries" ["data"] preSearch) (cP : CalD P w K mg base 3 "plain_name" ["data"] prePlain) : FnOk P w K mg base CX0 4 f fd ["data", "left"] (spD K preOpen) := by
  refine okD F scOpen (fun ds d ⟨_, _, e, _⟩ => by rw [e]; rfl) (by decide) fun cdv A outer s H E hr gd ds d hp Ge He Q k => ?_
  obtain ⟨xs, left, rfl, hb, hl, hleft, rfl⟩ := hp
  have hlen : ((xs.map PyData.int).length : Int) = (xs.length : Int) := by rw [List.length_map]
  obtain ⟨f1, f2⟩ := founds_len hb
  obtain ⟨c1, c2⟩ := cands_len hb hl
  refine r_unp gd (v_call cSp (hr.mono (by decide)) (a_cons (v_var 1 rfl) (a_cons (v_add v_int (v_lenL T.len (v_var 0 rfl).lv)) a_nil)) ⟨left, _, rfl, by omega, by omega, rfl⟩) (vs := [1, 2]) (gs_cons (g_name 1 gd.nd (by decide)) (gs_cons (g_name 2 gd.nd (by decide)) gs_nil)) ?_
  rw [hlen]
  refine r_ifL (t_not (t_val (v_var 2 rfl))) (fun z => nomatch z) fun _ => ?_
  refine r_set 3 gd (v_call cLa (hr.mono (by decide)) (a_cons (v_var 0 rfl) a_nil) ⟨xs, rfl, by omega, rfl⟩) ?_
  refine r_set 4 gd (n_lst a_nil).ev ?_
  refine r_if (fun es => es = [.pur (il xs), .pur (.int (left - (1 + xs.length))), .pur (.bool true), .pur (.int (lastEnd xs)), .pur (.list ((founds xs).map Fd.py)), .emp, .emp, .emp, .emp, .emp, .emp, .emp, .emp, .emp, .emp]) (t_ge (v_var 3 rfl) v_int) (fun hz => ?_) (fun hz => ?_) fun es' e => ?_
  · have hz' := of_decide_eq_true hz
    obtain ⟨a, ea, la, ha, hla⟩ := lastEnd_ok hb hz'
    refine r_set 4 gd (v_call cD (hr.mono (by decide)) (a_cons (v_var 0 rfl) (a_cons ((v_var 3 rfl).n a ea) a_nil)) ⟨xs, a, rfl, hb, hl, hla, rfl⟩) ?_
    refine r_nil (Wk.refl _) ?_
    unfold founds
    rw [if_pos hz', ea]
    rfl
  · have hz' := of_decide_eq_false hz
    refine r_nil (Wk.refl _) ?_
    unfold founds
    rw [if_neg hz']
    rfl
  · subst e
    refine r_set (d := .list ((cands xs).map En.py)) 5 gd (v_if (t_neNil gd (v_var 4 rfl).lv (n_lst a_nil).lv (plainAll_of fun d hd => ?_) (Nat.le_trans (depthAll_of (n := 3) fun d hd => ?_) (by decide))) (fun h => ?_) (fun h => ?_) anti_c) ?_
    · obtain ⟨o, _, rfl⟩ := List.mem_map.mp hd
      exact fd_plain o
    · obtain ⟨o, _, rfl⟩ := List.mem_map.mp hd
      exact fd_depth o
    · have h' : ¬ (founds xs).isEmpty = true := by
        intro z
        rw [List.isEmpty_iff] at z
        rw [z] at h
        cases h
      refine Ev.to (v_call cO (hr.mono (by decide)) (a_cons (v_var 4 rfl) a_nil) ⟨founds xs, rfl, by omega, rfl⟩) ?_
      unfold cands
      rw [if_neg h', List.map_map]
      rfl
    · have h' : (founds xs).isEmpty = true := by
        cases q : founds xs with
        | nil => rfl
        | cons a b => rw [q] at h; cases h
      refine Ev.to (v_call cS (hr.mono (by decide)) (a_cons (v_var 0 rfl) a_nil) ⟨xs, rfl, hb, hl, rfl⟩) ?_
      unfold cands
      rw [if_pos h']
    · -- the names made plain
      refine r_lc 5 [("name", 8), ("method", 9), ("size", 10), ("total", 11), ("part", 12)] gd
        (fun d => match d with
          | .tuple [a, b, c, e, g] => [.pur (il xs), .pur (.int (left - (1 + xs.length))), .pur (.bool true), .pur (.int (lastEnd xs)), .pur (.list ((founds xs).map Fd.py)), .pur (.list ((cands xs).map En.py)), .emp, .emp, .pur a, .pur b, .pur c, .pur e, .pur g, .emp, .emp]
          | _ => []) (fun _ => true)
        (fun d => match d with | .tuple [.list a, b, c, e, g] => .tuple [.str (tx (plainName (unI a))), b, c, e, g] | _ => .none)
        (i_list (v_var 5 rfl)) (blkOk_by (N := ["data", "left", "enough", "place", "found", "entries", "names", "kept", "name", "method", "size", "total", "part", "entry", "at"]) (sc := defScope sOpen) (by decide +kernel))
        (fun _ _ _ _ _ d hd => ?_) (fun _ _ _ _ _ d hd => s_nil) (fun _ _ _ _ _ d hd hf => ?_) (by rw [List.length_map]; omega) ?_
      · obtain ⟨e, _, rfl⟩ := List.mem_map.mp hd
        exact g_tup (ds := [il e.name, .int e.meth, .int e.size, .int e.total, .tuple (e.part.map PyData.int)]) gd.calm (gs_cons (gb_name 8 gd) (gs_cons (gb_name 9 gd) (gs_cons (gb_name 10 gd) (gs_cons (gb_name 11 gd) (gs_cons (gb_name 12 gd) gs_nil)))))
      · obtain ⟨e, he, rfl⟩ := List.mem_map.mp hd
        have := c1 e he
        refine Ev.to (v_tup (a_cons (v_call cP (hr.mono (by decide)) (a_cons (v_var 8 rfl) a_nil) ⟨e.name, rfl, by omega, rfl⟩) (a_cons (v_var 9 rfl) (a_cons (v_var 10 rfl) (a_cons (v_var 11 rfl) (a_cons (v_var 12 rfl) a_nil)))))) ?_
        show PyData.tuple [.str (tx (plainName e.name)), _, _, _, _] = PyData.tuple [.str (tx (plainName (unI (e.name.map PyData.int)))), _, _, _, _]
        rw [unI_ints]
      · rw [map_true En.py _ (fun e => (plainE e).py) (cands xs) (fun e _ => by
          show PyData.tuple [.str (tx (plainName (unI (e.name.map PyData.int)))), _, _, _, _] = _
          rw [unI_ints]
          rfl)]
        have hm : ((cands xs).map fun e => (plainE e).py) = ((cands xs).map plainE).map Ep.py := by rw [List.map_map] <;> rfl
        rw [hm]
        generalize hel : (cands xs).map plainE = el
        have hell : el.length ≤ 65535 := by rw [← hel, List.length_map]; exact c2
        have hres : openC xs = (lastOf el).take 64 := by unfold openC; rw [hel]
        -- their names
        refine r_set 6 gd (Nv.to (n_lc [("entry", 13)] gd (fun d => [.pur (il xs), .pur (.int (left - (1 + xs.length))), .pur (.bool true), .pur (.int (lastEnd xs)), .pur (.list ((founds xs).map Fd.py)), .pur (.list (el.map Ep.py)), .emp, .emp, .emp, .emp, .emp, .emp, .emp, .pur d, .emp]) (fun _ => true)
          (fun d => match d with | .tuple (a :: _) => a | _ => .none) (i_list (v_var 5 rfl)) (blkOk_by (N := ["data", "left", "enough", "place", "found", "entries", "names", "kept", "name", "method", "size", "total", "part", "entry", "at"]) (sc := defScope sOpen) (by decide +kernel))
          (fun _ _ _ _ _ d hd => gb_name 13 gd) (fun _ _ _ _ _ d hd => s_nil) (fun _ _ _ _ _ d hd hf => ?_) (by rw [List.length_map]; omega)) (map_true Ep.py _ (fun e => PyData.str (tx e.name)) el (fun e _ => rfl))).ev ?_
        · obtain ⟨e, he, rfl⟩ := List.mem_map.mp hd
          exact v_ixT (j := 0) (v_var 13 rfl) v_int rfl
        · refine r_lc 7 [("at", 14), ("entry", 13)] gd
            (fun d => match d with
              | .tuple [a, b] => [.pur (il xs), .pur (.int (left - (1 + xs.length))), .pur (.bool true), .pur (.int (lastEnd xs)), .pur (.list ((founds xs).map Fd.py)), .pur (.list (el.map Ep.py)), .pur (.list (el.map fun e => .str (tx e.name))), .emp, .emp, .emp, .emp, .emp, .emp, .pur b, .pur a]
              | _ => []) (keepF (el.map fun e => tx e.name)) keepG
            (i_enum T.enumerate (v_var 5 rfl)) (blkOk_by (N := ["data", "left", "enough", "place", "found", "entries", "names", "kept", "name", "method", "size", "total", "part", "entry", "at"]) (sc := defScope sOpen) (by decide +kernel))
            (fun _ _ _ _ _ d hd => ?_) (fun _ _ _ _ _ d hd => ?_) (fun _ _ _ _ _ d hd hf => ?_) (by rw [List.length_mapIdx, List.length_map]; omega) ?_
          · obtain ⟨j, e, _, rfl⟩ := mapIdx_mem _ _ d hd
            exact g_tup (ds := [.int (j : Int), e]) gd.calm (gs_cons (gb_name 14 gd) (gs_cons (gb_name 13 gd) gs_nil))
          · rw [mapIdx_map'] at hd
            obtain ⟨j, e, _, rfl⟩ := mapIdx_mem _ _ d hd
            exact s_one (t_notIn (v_ixT (j := 0) (v_var 13 rfl) v_int rfl) ((n_slFrom (j + 1) (v_var 6 rfl).lv (v_add (v_var 14 rfl) v_int) (by omega)).lv.to (by rw [← List.map_drop, ← List.map_drop, List.map_map] <;> rfl)))
          · obtain ⟨j, e, _, rfl⟩ := mapIdx_mem _ _ d hd
            exact v_var 13 rfl
          · have key := kept_is el []
            simp only [List.length_nil, Nat.zero_add, List.nil_append] at key
            rw [mapIdx_map', key]
            refine r_ret (Ev.to (v_tup (a_cons (n_slTo 64 (v_var 7 rfl).lv (v_gint T.mostEntries) rfl).ev (a_cons (v_var 1 rfl) a_nil))) ?_) k
            rw [hres, List.map_take]
end
end K9
namespace K9
open PySem PySem.Spec PyProof.Rows L2 Evl
/-! ### writing -/
def nameI (e : Ep) : List Int := e.name.map fun (c : Nat) => (c : Int)
def hdA (e : Ep) : List Int := crt ++ (e.meth :: 0 :: (low2 (nameI e).length 2 ++ (low2 e.size 4 ++ low2 e.total 4)))
def hdC (e : Ep) : List Int := low2 e.part.length 4 ++ (nameI e ++ e.part)
def hdB (e : Ep) : List Int := hdA e ++ hdC e
def wstep (st : List Int × List (Nat × List Int)) (e : Ep) : List Int × List (Nat × List Int) := (st.1 ++ hdB e, st.2 ++ [(st.1.length, nameI e)])
def bp (es : List Ep) : List Int × List (Nat × List Int) := es.foldl wstep ([], [])
def recs (es : List Ep) : Int := ((bp es).2.map fun p => 10 + (p.2.length : Int)).sum
def placeOf (es : List Ep) : Int := (bp es).1.length + recs es
def recB (place : Int) (p : Nat × List Int) : List Int := cdir ++ (low2 (place - p.1) 4 ++ (low2 p.2.length 2 ++ p.2))
def endB (es : List Ep) : List Int := cend ++ (low2 (bp es).2.length 2 ++ low2 (recs es) 4)
def writeC (es : List Ep) : List Int := ((bp es).1 ++ (bp es).2.flatMap (recB (placeOf es))) ++ endB es
def ppy (p : Nat × List Int) : PyData := .tuple [.int (p.1 : Int), il p.2]
def preWrite (ds : List PyData) (d : PyData) : Prop := ∃ es : List Ep, ds = [.list (es.map Ep.py)] ∧ es.length ≤ 1000 ∧ (∀ e ∈ es, plainName (nameI e) = e.name ∧ e.name.length ≤ 1000) ∧ (writeC es).length ≤ 90000 ∧ d = il (writeC es)
theorem low2_len (n : Int) (k : Nat) : (low2 n k).length = k := by unfold low2; simp
theorem bp_snoc (l : List Ep) (e : Ep) : bp (l ++ [e]) = wstep (bp l) e := by
  unfold bp
  rw [List.foldl_append] <;> rfl
theorem bp_fst (l : List Ep) : ∀ st, (l.foldl wstep st).1 = st.1 ++ l.flatMap hdB := by
  induction l with
  | nil => intro st; simp
  | cons e l ih =>
    intro st
    rw [List.foldl_cons, ih, List.flatMap_cons, ← List.append_assoc]
    rfl
theorem bp_len2 (l : List Ep) : ∀ st, (l.foldl wstep st).2.length = st.2.length + l.length := by
  induction l with
  | nil => intro st; rfl
  | cons e l ih =>
    intro st
    rw [List.foldl_cons, ih, List.length_cons]
    show (st.2 ++ [(st.1.length, nameI e)]).length + l.length = _
    rw [List.length_append]
    simp
    omega
theorem bp_pre (l : List Ep) (i : Nat) : (bp (l.take i)).1.length ≤ (bp l).1.length := by
  unfold bp
  rw [bp_fst, bp_fst]
  simp only [List.nil_append]
  have h : l.flatMap hdB = (l.take i).flatMap hdB ++ (l.drop i).flatMap hdB := by rw [← List.flatMap_append, List.take_append_drop]
  rw [h, List.length_append]
  omega
theorem scWrite : FnScope ["entries", "data", "places", "name", "method", "size", "total", "part", "codes", "records", "place", "at", "sign", "_"] ["entries"] (defScope sWrite) := ⟨rfl, rfl, rfl, by decide +kernel, rfl, by decide +kernel, by decide +kernel⟩
section
variable {P : Program} {w : World} {K : PySem.W.Frag} {mg : Str → Option Value} {base : Heap} {f : Addr} {fd : FuncData}
theorem ok_write (T : Gs K mg) (F : Fun K "write_crate" "write_crate" sWrite f fd) (cT : CalD P w K mg base 1 "to_low" ["number", "size"] preToLow2) (cP : CalD P w K mg base 3 "plain_name" ["data"] prePlain) : FnOk P w K mg base CX0 4 f fd ["entries"] (spD K preWrite) := by
  refine okD F scWrite (fun ds d ⟨_, e, _⟩ => by rw [e]; rfl) (by decide) fun cdv A outer s H E hr gd ds d hp Ge He Q k => ?_
  obtain ⟨es, rfl, hn, hes, hw, rfl⟩ := hp
  have hb1 : (bp es).1.length + ((bp es).2.flatMap (recB (placeOf es))).length + (endB es).length ≤ 90000 := by
    have : (writeC es).length = (bp es).1.length + ((bp es).2.flatMap (recB (placeOf es))).length + (endB es).length := by unfold writeC; rw [List.length_append, List.length_append]
    omega
  have hb2 : (bp es).2.length = es.length := by unfold bp; rw [bp_len2]; simp
  refine r_own 1 gd (n_lst a_nil) ?_
  refine r_own 2 gd (n_lst a_nil) ?_
  refine r_for gd (i_list (v_var 0 rfl)) (fun i es' => ∃ (z3 z4 z5 z6 z7 z8 z9 z10 z11 z12 z13 : Sl), es' = [.pur (.list (es.map Ep.py)), .own ((bp (es.take i)).1.map PyData.int), .own ((bp (es.take i)).2.map ppy), z3, z4, z5, z6, z7, z8, z9, z10, z11, z12, z13]) (fun _ => False) [3, 4, 5, 6, 7]
    ⟨_, _, _, _, _, _, _, _, _, _, _, rfl⟩ ?_ ?_
  · rintro i d es1 hi ⟨z3, z4, z5, z6, z7, z8, z9, z10, z11, z12, z13, rfl⟩
    rw [List.getElem?_map] at hi
    obtain ⟨e, he, rfl⟩ := Option.map_eq_some_iff.mp hi
    obtain ⟨p1, p2⟩ := hes e (List.mem_of_getElem? he)
    have hil : i < es.length := (List.getElem?_eq_some_iff.mp he).1
    have hst : bp (es.take (i + 1)) = wstep (bp (es.take i)) e := by rw [take_snoc he, bp_snoc]
    have hle := bp_pre es (i + 1)
    have hfst : (bp (es.take (i + 1))).1 = (bp (es.take i)).1 ++ hdB e := by rw [hst] <;> rfl
    have hlb : (bp (es.take i)).1.length + (hdA e).length + (hdC e).length ≤ 90000 := by
      rw [hfst] at hle
      unfold hdB at hle
      rw [List.length_append, List.length_append] at hle
      omega
    have hl2 : (bp (es.take i)).2.length ≤ i := by unfold bp; rw [bp_len2, List.length_take]; simp; omega
    have hnl : (nameI e).length = e.name.length := by unfold nameI; rw [List.length_map]
    refine ⟨_, g_tup (ds := [.str (tx e.name), .int e.meth, .int e.size, .int e.total, .tuple (e.part.map PyData.int)]) gd.calm (gs_cons (g_name 3 gd.nd (by decide)) (gs_cons (g_name 4 gd.nd (by decide)) (gs_cons (g_name 5 gd.nd (by decide)) (gs_cons (g_name 6 gd.nd (by decide)) (gs_cons (g_name 7 gd.nd (by decide)) gs_nil))))), ?_⟩
    refine r_lc 8 [("sign", 12)] gd (fun d => [.pur (.list (es.map Ep.py)), .own ((bp (es.take i)).1.map PyData.int), .own ((bp (es.take i)).2.map ppy), .pur (.str (tx e.name)), .pur (.int e.meth), .pur (.int e.size), .pur (.int e.total), .pur (.tuple (e.part.map PyData.int)), z8, z9, z10, z11, .pur d, z13]) (fun _ => true)
      (fun d => match d with | .str s => .int ((s.cps.getD 0 0 : Nat) : Int) | _ => .none) (i_str (v_var 3 rfl)) (blkOk_by (N := ["entries", "data", "places", "name", "method", "size", "total", "part", "codes", "records", "place", "at", "sign", "_"]) (sc := defScope sWrite) (by decide +kernel))
      (fun _ _ _ _ _ d hd => gb_name 12 gd) (fun _ _ _ _ _ d hd => s_nil) (fun _ _ _ _ _ d hd hf => ?_) (by rw [List.length_map]; simp [tx]; omega) ?_
    · obtain ⟨c, _, rfl⟩ := List.mem_map.mp hd
      exact v_ord T.ord (v_var 12 rfl)
    · have ecodes : (((tx e.name).cps.toList.map fun c => PyData.str ⟨#[c]⟩).filter fun _ => true).map (fun d => match d with | .str s => .int ((s.cps.getD 0 0 : Nat) : Int) | _ => .none) = (nameI e).map PyData.int := by
        rw [map_true (fun c => PyData.str ⟨#[c]⟩) _ (fun c => .int (c : Int)) _ fun c _ => rfl]
        unfold nameI
        rw [List.map_map]
        simp [tx]
      rw [ecodes]
      refine r_ifL (t_neS (v_call cP (hr.mono (by decide)) (a_cons (v_var 8 rfl) a_nil) ⟨nameI e, rfl, by omega, rfl⟩) (v_var 3 rfl)) (fun hz => ?_) fun _ => ?_
      · exfalso
        rw [p1] at hz
        simp at hz
      · refine r_app 2 gd rfl (v_tup (a_cons (v_lenL T.len (l_own 1 rfl)) (a_cons (v_var 8 rfl) a_nil))) (by rw [List.length_map]; omega) ?_
        have lA : (hdA e).length = 16 := by unfold hdA crt; simp [low2_len]
        refine r_ext 1 gd rfl (Nv.to (ys := (hdA e).map PyData.int) (n_lst (a_starT (v_gtup T.crate) (a_cons (v_var 4 rfl) (a_cons v_int (a_starL (v_call cT (hr.mono (by decide)) (a_cons (v_lenL T.len (v_var 8 rfl).lv) (a_cons v_int a_nil)) ⟨_, 2, rfl, by decide, rfl⟩).lv (a_starL (v_call cT (hr.mono (by decide)) (a_cons (v_var 5 rfl) (a_cons v_int a_nil)) ⟨_, 4, rfl, by decide, rfl⟩).lv
          (a_starL (v_call cT (hr.mono (by decide)) (a_cons (v_var 6 rfl) (a_cons v_int a_nil)) ⟨_, 4, rfl, by decide, rfl⟩).lv a_nil)))))) (by simp [low2_len])) (by unfold hdA crt; simp)).lv (by rw [List.length_map, List.length_map]; omega) ?_
        rw [← List.map_append]
        refine r_ext 1 gd rfl (Nv.to (ys := (hdC e).map PyData.int) (n_lst (a_starL (v_call cT (hr.mono (by decide)) (a_cons (v_lenT T.len (v_var 7 rfl)) (a_cons v_int a_nil)) ⟨_, 4, rfl, by decide, rfl⟩).lv (a_starL (v_var 8 rfl).lv (a_starT (v_var 7 rfl) a_nil)))
          (by
            have : (hdC e).length ≤ 90000 := by omega
            unfold hdC at this
            simp [low2_len] at this ⊢
            omega)) (by unfold hdC; simp)).lv (by rw [List.length_map, List.length_map, List.length_append]; omega) ?_
        rw [← List.map_append]
        have e1 : ((bp (es.take i)).1 ++ hdA e) ++ hdC e = (bp (es.take (i + 1))).1 := by rw [hfst, List.append_assoc] <;> rfl
        have e2 : (bp (es.take i)).2.map ppy ++ [.tuple [.int (((bp (es.take i)).1.map PyData.int).length : Int), .list ((nameI e).map PyData.int)]] = (bp (es.take (i + 1))).2.map ppy := by
          rw [hst]
          show _ = ((bp (es.take i)).2 ++ [((bp (es.take i)).1.length, nameI e)]).map ppy
          rw [List.map_append, List.length_map]
          rfl
        rw [e1, e2]
        exact r_nil (Wk.refl _) ⟨_, _, _, _, _, _, _, _, _, _, _, rfl⟩
  · rintro es1 (⟨z3, z4, z5, z6, z7, z8, z9, z10, z11, z12, z13, rfl⟩ | h)
    · rw [List.length_map, List.take_length]
      refine r_frz 2 rfl ?_
      refine r_set 9 gd (Ev.to (v_sum (ns := (bp es).2.map fun p => 10 + (p.2.length : Int)) gd.calm T.sum ((n_lc [("_", 13), ("codes", 8)] gd (fun d => match d with
          | .tuple [a, b] => [.pur (.list (es.map Ep.py)), .own ((bp es).1.map PyData.int), .pur (.list ((bp es).2.map ppy)), z3, z4, z5, z6, z7, .pur b, z9, z10, z11, z12, .pur a]
          | _ => []) (fun _ => true) (fun d => match d with | .tuple [_, .list ns] => .int (10 + (ns.length : Int)) | _ => .none) (i_list (v_var 2 rfl)) (blkOk_by (N := ["entries", "data", "places", "name", "method", "size", "total", "part", "codes", "records", "place", "at", "sign", "_"]) (sc := defScope sWrite) (by decide +kernel))
        (fun _ _ _ _ _ d hd => ?_) (fun _ _ _ _ _ d hd => s_nil) (fun _ _ _ _ _ d hd hf => ?_) (by rw [List.length_map]; omega)).to ?_).lv) (show PyData.int _ = .int (recs es) from rfl)) ?_
      · obtain ⟨p, _, rfl⟩ := List.mem_map.mp hd
        exact g_tup (ds := [.int (p.1 : Int), il p.2]) gd.calm (gs_cons (gb_name 13 gd) (gs_cons (gb_name 8 gd) gs_nil))
      · obtain ⟨p, _, rfl⟩ := List.mem_map.mp hd
        exact v_add (v_gint T.recSize) (v_lenL T.len (v_var 8 rfl).lv)
      · rw [map_true ppy _ (fun p => .int (10 + (p.2.length : Int))) (bp es).2 (fun p _ => by
          show PyData.int (10 + ((p.2.map PyData.int).length : Int)) = _
          rw [List.length_map]), List.map_map]
        rfl
      · refine r_set 10 gd (Ev.to (v_add (v_lenL T.len (l_own 1 rfl)) (v_var 9 rfl)) (show _ = PyData.int (placeOf es) by unfold placeOf; rw [List.length_map])) ?_
        refine r_for gd (i_list (v_var 2 rfl)) (fun i es' => ∃ (z3 z4 z5 z6 z7 z8 z11 z12 z13 : Sl), es' = [.pur (.list (es.map Ep.py)), .own (((bp es).1 ++ ((bp es).2.take i).flatMap (recB (placeOf es))).map PyData.int), .pur (.list ((bp es).2.map ppy)), z3, z4, z5, z6, z7, z8, .pur (.int (recs es)), .pur (.int (placeOf es)), z11, z12, z13]) (fun _ => False) [11, 8]
          ⟨z3, z4, z5, z6, z7, z8, z11, z12, z13, by rw [List.take_zero, List.flatMap_nil, List.append_nil]; rfl⟩ ?_ ?_
        · rintro i d es1 hi ⟨z3, z4, z5, z6, z7, z8, z11, z12, z13, rfl⟩
          rw [List.getElem?_map] at hi
          obtain ⟨p, hp, rfl⟩ := Option.map_eq_some_iff.mp hi
          have hst : ((bp es).2.take (i + 1)).flatMap (recB (placeOf es)) = ((bp es).2.take i).flatMap (recB (placeOf es)) ++ recB (placeOf es) p := by
            rw [take_snoc hp, List.flatMap_append, List.flatMap_singleton]
          have hle : (((bp es).2.take (i + 1)).flatMap (recB (placeOf es))).length ≤ ((bp es).2.flatMap (recB (placeOf es))).length := by
            have h : (bp es).2.flatMap (recB (placeOf es)) = ((bp es).2.take (i + 1)).flatMap (recB (placeOf es)) ++ ((bp es).2.drop (i + 1)).flatMap (recB (placeOf es)) := by rw [← List.flatMap_append, List.take_append_drop]
            rw [h, List.length_append]
            omega
          rw [hst, List.length_append] at hle
          refine ⟨_, g_tup (ds := [.int (p.1 : Int), il p.2]) gd.calm (gs_cons (g_name 11 gd.nd (by decide)) (gs_cons (g_name 8 gd.nd (by decide)) gs_nil)), ?_⟩
          refine r_ext 1 gd rfl (Nv.to (ys := (recB (placeOf es) p).map PyData.int) (n_lst (a_starT (v_gtup T.recS) (a_starL (v_call cT (hr.mono (by decide)) (a_cons (v_sub (v_var 10 rfl) (v_var 11 rfl)) (a_cons v_int a_nil)) ⟨_, 4, rfl, by decide, rfl⟩).lv (a_starL (v_call cT (hr.mono (by decide)) (a_cons (v_lenL T.len (v_var 8 rfl).lv) (a_cons v_int a_nil)) ⟨_, 2, rfl, by decide, rfl⟩).lv (a_starL (v_var 8 rfl).lv a_nil))))
            (by
              have : (recB (placeOf es) p).length ≤ 90000 := by omega
              unfold recB cdir at this
              simp [low2_len] at this ⊢
              omega)) (by unfold recB cdir; simp)).lv (by rw [List.length_map, List.length_map, List.length_append]; omega) ?_
          rw [← List.map_append, List.append_assoc, ← hst]
          exact r_nil (Wk.refl _) ⟨_, _, _, _, _, _, _, _, _, rfl⟩
        · rintro es1 (⟨z3, z4, z5, z6, z7, z8, z11, z12, z13, rfl⟩ | h)
          · rw [List.length_map, List.take_length]
            refine r_ext 1 gd rfl (Nv.to (ys := (endB es).map PyData.int) (n_lst (a_starT (v_gtup T.endS) (a_starL (v_call cT (hr.mono (by decide)) (a_cons (v_lenL T.len (v_var 2 rfl).lv) (a_cons v_int a_nil)) ⟨_, 2, rfl, by decide, rfl⟩).lv (a_starL (v_call cT (hr.mono (by decide)) (a_cons (v_var 9 rfl) (a_cons v_int a_nil)) ⟨_, 4, rfl, by decide, rfl⟩).lv a_nil)))
              (by simp [low2_len])) (by unfold endB cend; simp)).lv (by rw [List.length_map, List.length_map, List.length_append]; omega) ?_
            rw [← List.map_append]
            exact r_frz 1 rfl (r_ret (v_var 1 rfl) k)
          · exact h.elim
    · exact h.elim
end
end K9
namespace K9
open PySem PySem.Spec PyProof.Rows L2 Evl
/-! ### the law's own helpers -/
def lawCell (ns : List Int) (k : Nat) : Int := ns.getD k 0
def preCell (ds : List PyData) (d : PyData) : Prop := ∃ (ns : List Int) (k : Nat), ds = [scr ns, .int k] ∧ d = .int (lawCell ns k)
def iabs (c : Int) : Int := if c < 0 then -c else c
theorem iabs_nn (c : Int) : 0 ≤ iabs c := by unfold iabs; split <;> omega
def rndAt (s : Int) : Nat → Int
  | 0 => s
  | k + 1 => rndAt s k * 48271 % 2147483647
def rnd (s : Int) (n : Nat) : List Int := (List.range n).map fun i => Builtin.bitAnd (rndAt s (i + 1) / 7 + rndAt s (i + 1)) 255
def big18 : Int := 10 ^ (18 : Int).toNat
def lawRow (c : Int) (n : Nat) : List Int := if big18 ≤ iabs c then low2 (iabs c) n else rnd (iabs c % 2147483629 + 1) n
def preRow (ds : List PyData) (d : PyData) : Prop := ∃ (c : Int) (n : Nat), ds = [.int c, .int n] ∧ n ≤ 1000 ∧ d = il (lawRow c n)
def castI (cs : List Nat) : List Int := cs.map fun (c : Nat) => (c : Int)
def preCodes (ds : List PyData) (d : PyData) : Prop := ∃ cs : List Nat, ds = [.str (tx cs)] ∧ cs.length ≤ 60000 ∧ d = il (castI cs)
def mkHead (c : Int) (name data : List Int) (size : Int) : List Int :=
  ((crt ++ [c / 9 % 6, Builtin.bitAnd (c / 54) 1]) ++ low2 name.length 2) ++ low2 (Builtin.bitAnd (c / 108) 255) 4 ++ low2 (Builtin.bitAnd (c / 27648) 65535) 4 ++ low2 (if c % 9 = 1 then size else data.length) 4 ++ name ++ data
def preMHead (ds : List PyData) (d : PyData) : Prop := ∃ (c : Int) (name data : List Int) (size : Int), ds = [.int c, il name, il data, .int size] ∧ name.length ≤ 1000 ∧ data.length ≤ 1000 ∧ d = il (mkHead c name data size)
def mkRec (dist : Int) (name : List Int) : List Int := cdir ++ low2 dist 4 ++ low2 name.length 2 ++ name
def preMRec (ds : List PyData) (d : PyData) : Prop := ∃ (dist : Int) (name : List Int), ds = [.int dist, il name] ∧ name.length ≤ 1000 ∧ d = il (mkRec dist name)
def nmTab : List (List Nat) := [[97], [98], [65], [100, 105, 114, 47, 97], [46, 46, 47, 97], [], [120, 120, 120, 120, 120], [98, 46, 116, 120, 116], [99]]
def mkName (c : Int) : List Int := castI (nmTab.getD (c % 9).toNat [])
def preMName (ds : List PyData) (d : PyData) : Prop := ∃ c : Int, ds = [.int c] ∧ d = il (mkName c)
/-! bytes -/
theorem bytes_nil : bytes [] := fun b h => by cases h
theorem bytes_app {xs ys : List Int} (h : bytes xs) (k : bytes ys) : bytes (xs ++ ys) := fun b hb => (List.mem_append.mp hb).elim (h b) (k b)
theorem bytes_take {xs : List Int} (h : bytes xs) (n : Nat) : bytes (xs.take n) := fun b hb => h b (List.mem_of_mem_take hb)
theorem bytes_drop {xs : List Int} (h : bytes xs) (n : Nat) : bytes (xs.drop n) := fun b hb => h b (List.mem_of_mem_drop hb)
theorem and255 {x : Int} (h : 0 ≤ x) : Builtin.bitAnd x 255 = x % 256 := Bits.bitAnd_mask 8 h
theorem bytes_low2 {n : Int} (h : 0 ≤ n) (k : Nat) : bytes (low2 n k) := fun b hb => by
  unfold low2 at hb
  obtain ⟨j, _, rfl⟩ := List.mem_map.mp hb
  have h2 : 0 ≤ n / 256 ^ j := Int.ediv_nonneg h (Int.pow_nonneg (by decide))
  rw [and255 h2]
  omega
theorem rndAt_nn {s : Int} (h : 0 ≤ s) : ∀ k, 0 ≤ rndAt s k
  | 0 => h
  | k + 1 => Int.emod_nonneg _ (by decide)
theorem bytes_row (c : Int) (n : Nat) : bytes (lawRow c n) ∧ (lawRow c n).length = n := by
  unfold lawRow
  have h0 := iabs_nn c
  split
  · exact ⟨bytes_low2 h0 n, low2_len _ _⟩
  · refine ⟨fun b hb => ?_, by unfold rnd; simp⟩
    unfold rnd at hb
    obtain ⟨j, _, rfl⟩ := List.mem_map.mp hb
    have h1 : 0 ≤ rndAt (iabs c % 2147483629 + 1) (j + 1) := rndAt_nn (by omega) _
    rw [and255 (by omega)]
    omega
theorem bytes_mkName (c : Int) : bytes (mkName c) ∧ (mkName c).length ≤ 5 := by
  have key : ∀ j, j < 10 → bytes (castI (nmTab.getD j [])) ∧ (castI (nmTab.getD j [])).length ≤ 5 := by
    unfold bytes
    decide +kernel
  unfold mkName
  exact key _ (by omega)
theorem and1 {x : Int} (h : 0 ≤ x) : Builtin.bitAnd x 1 = x % 2 := Bits.bitAnd_mask 1 h
theorem andFF {x : Int} (h : 0 ≤ x) : Builtin.bitAnd x 65535 = x % 65536 := Bits.bitAnd_mask 16 h
theorem bytes_mkHead {c : Int} {name data : List Int} {size : Int} (hc : 0 ≤ c) (hs : 0 ≤ size) (hn : bytes name) (hd : bytes data) : bytes (mkHead c name data size) ∧ (mkHead c name data size).length = 20 + name.length + data.length := by
  unfold mkHead
  refine ⟨?_, by simp [low2_len, crt]; omega⟩
  have h1 : 0 ≤ c / 54 := Int.ediv_nonneg hc (by decide)
  have h2 : 0 ≤ c / 108 := Int.ediv_nonneg hc (by decide)
  have h3 : 0 ≤ c / 27648 := Int.ediv_nonneg hc (by decide)
  refine bytes_app (bytes_app (bytes_app (bytes_app (bytes_app (bytes_app (bytes_app ?_ ?_) (bytes_low2 (by omega) 2)) (bytes_low2 ?_ 4)) (bytes_low2 ?_ 4)) (bytes_low2 ?_ 4)) hn) hd
  · unfold bytes crt; decide
  · intro b hb
    rw [and1 h1] at hb
    simp at hb
    omega
  · rw [and255 h2]; omega
  · rw [andFF h3]; omega
  · split <;> omega
theorem bytes_mkRec {dist : Int} {name : List Int} (h : 0 ≤ dist) (hn : bytes name) : bytes (mkRec dist name) ∧ (mkRec dist name).length = 10 + name.length := by
  unfold mkRec
  refine ⟨bytes_app (bytes_app (bytes_app (by unfold bytes cdir; decide) (bytes_low2 h 4)) (bytes_low2 (by omega) 2)) hn, by simp [low2_len, cdir]; omega⟩
theorem op_mulS {X : Cx} : OpR X (binaryOp .Mult) (fun x y H Q => ∃ (z : Str) (n : Nat), x = .str z ∧ y = .int n ∧ 2 ≤ n ∧ n ≤ 1000 ∧ 1 ≤ z.length ∧ z.length ≤ 1000 ∧ (⟨(List.replicate n z.cps).foldl (· ++ ·) #[]⟩ : Str).length ≤ 100000 ∧ Q (.str ⟨(List.replicate n z.cps).foldl (· ++ ·) #[]⟩) H) := by
  intro pins s σ H x y v u Q I rx ry h
  obtain ⟨z, n, rfl, rfl, h2, h3, h4, h5, h6, q⟩ := h
  obtain ⟨t, rfl⟩ := rx
  obtain ⟨t', rfl⟩ := ry
  have hp : z.length * n ≤ 1000000 := by
    have := Nat.mul_le_mul h5 h3
    omega
  refine PySem.P.mul_str ?_ (fun _ _ => ?_) (fun _ _ => ?_) ?_
  · rw [decide_eq_false (by omega), decide_eq_false (by omega)] <;> rfl
  · have h7 : (1000 : Int) ≤ (2 ^ 63 - 1) / (n : Int) := by
      rw [Int.le_ediv_iff_mul_le (by omega)]
      omega
    omega
  · rw [Int.toNat_natCast]
    unfold Builtin.Str.tooLong
    exact decide_eq_false (by rw [sizeLine_eq]; omega)
  · rw [if_neg (by omega), if_neg (by simp; omega), Int.toNat_natCast]
    exact ⟨sz_of h6, .str _, H, I.tok _, ⟨_, rfl⟩, q⟩
theorem scCell : FnScope ["_law_script", "_law_k"] ["_law_script", "_law_k"] (defScope sCell) := ⟨rfl, rfl, rfl, by decide +kernel, rfl, by decide +kernel, by decide +kernel⟩
theorem scRow : FnScope ["_law_cell_here", "_law_count", "_law_row_here", "_law_left", "_law_k", "_law_state"] ["_law_cell_here", "_law_count"] (defScope sRow) := ⟨rfl, rfl, rfl, by decide +kernel, rfl, by decide +kernel, by decide +kernel⟩
theorem scLLow : FnScope ["_law_number_here", "_law_size", "_law_row_here", "_law_k"] ["_law_number_here", "_law_size"] (defScope sLLow) := ⟨rfl, rfl, rfl, by decide +kernel, rfl, by decide +kernel, by decide +kernel⟩
theorem scLNum : FnScope ["_law_row_here", "_law_number_here", "_law_byte"] ["_law_row_here"] (defScope sLNum) := ⟨rfl, rfl, rfl, by decide +kernel, rfl, by decide +kernel, by decide +kernel⟩
theorem scCodes : FnScope ["_law_text", "_law_sign"] ["_law_text"] (defScope sCodes) := ⟨rfl, rfl, rfl, by decide +kernel, rfl, by decide +kernel, by decide +kernel⟩
theorem scMHead : FnScope ["_law_cell_here", "_law_name", "_law_data", "_law_size", "_law_count", "_law_row_here"] ["_law_cell_here", "_law_name", "_law_data", "_law_size"] (defScope sMHead) := ⟨rfl, rfl, rfl, by decide +kernel, rfl, by decide +kernel, by decide +kernel⟩
theorem scMRec : FnScope ["_law_distance", "_law_name"] ["_law_distance", "_law_name"] (defScope sMRec) := ⟨rfl, rfl, rfl, by decide +kernel, rfl, by decide +kernel, by decide +kernel⟩
theorem scMName : FnScope ["_law_cell_here", "_law_names"] ["_law_cell_here"] (defScope sMName) := ⟨rfl, rfl, rfl, by decide +kernel, rfl, by decide +kernel, by decide +kernel⟩
section
variable {P : Program} {w : World} {K : PySem.W.Frag} {mg : Str → Option Value} {base : Heap} {f : Addr} {fd : FuncData}
theorem ok_cell (T : Gs K mg) (F : Fun K "_law_cell" "_law_cell" sCell f fd) : FnOk P w K mg base CX0 1 f fd ["_law_script", "_law_k"] (spD K preCell) := by
  refine okD F scCell (fun ds d ⟨_, _, e, _⟩ => by rw [e]; rfl) (by decide) fun cdv A outer s H E hr gd ds d hp Ge He Q k => ?_
  obtain ⟨ns, j, rfl, rfl⟩ := hp
  refine r_ifL (t_lt (v_var 1 rfl) (v_lenScr T.len (v_var 0 rfl))) (fun hb => ?_) (fun hb => ?_)
  · have hb' := of_decide_eq_true hb
    have hj : j < ns.length := by omega
    refine r_ret (v_intI T.int (v_ixScr (n := lawCell ns j) (v_var 0 rfl) (v_var 1 rfl) ?_)) k
    unfold lawCell
    rw [List.getD_eq_getElem?_getD, List.getElem?_eq_getElem hj] <;> rfl
  · have hb' := of_decide_eq_false hb
    refine r_ret (Ev.to v_int ?_) k
    unfold lawCell
    rw [List.getD_eq_getElem?_getD, List.getElem?_eq_none (by omega)] <;> rfl
theorem ok_row (T : Gs K mg) (F : Fun K "_law_row" "_law_row" sRow f fd) : FnOk P w K mg base CX0 1 f fd ["_law_cell_here", "_law_count"] (spD K preRow) := by
  refine okD F scRow (fun ds d ⟨_, _, e, _⟩ => by rw [e]; rfl) (by decide) fun cdv A outer s H E hr gd ds d hp Ge He Q k => ?_
  obtain ⟨c, n, rfl, hn, rfl⟩ := hp
  refine r_own 2 gd (n_lst a_nil) ?_
  refine r_set (d := .int (iabs c)) 3 gd (v_abs T.abs (v_var 0 rfl)) ?_
  refine r_ifL (b := decide (big18 ≤ iabs c)) (t_ge (v_var 3 rfl) (v_pow ⟨by decide, by decide, by decide⟩ v_int v_int)) (fun hb => ?_) (fun hb => ?_)
  · have hb' := of_decide_eq_true hb
    unfold lawRow at k
    rw [if_pos hb'] at k
    refine r_for gd (i_range T.range (v_var 1 rfl) (by omega) (by omega)) (fun i es => ∃ z, es = [.pur (.int c), .pur (.int n), .own ((low2 (iabs c) i).map PyData.int), .pur (.int (iabs c / 256 ^ i)), z, .emp]) (fun _ => False) [4] ⟨.emp, ?_⟩ ?_ ?_
    · rw [Int.pow_zero, Int.ediv_one]
      rfl
    · rintro i d es1 hi ⟨z, rfl⟩
      refine ⟨_, g_name 4 gd.nd (by decide), ?_⟩
      have hi' : i < n := by
        have := (List.getElem?_eq_some_iff.mp hi).1
        simpa using this
      refine r_app 2 gd rfl (v_band (v_var 3 rfl) v_int) (by rw [List.length_map, low2_len]; omega) ?_
      refine r_set 3 gd (v_shr (by decide) (v_var 3 rfl) v_int) ?_
      have e1 : iabs c / 256 ^ i / 2 ^ (8 : Int).toNat = iabs c / 256 ^ (i + 1) := by
        rw [Int.ediv_ediv_of_nonneg (by exact Int.pow_nonneg (by decide)), Int.pow_succ] <;> rfl
      have e2 : (low2 (iabs c) i).map PyData.int ++ [.int (Builtin.bitAnd (iabs c / 256 ^ i) 255)] = (low2 (iabs c) (i + 1)).map PyData.int := by
        unfold low2
        rw [List.range_succ, List.map_append, List.map_append] <;> rfl
      rw [e1, e2]
      exact r_nil (Wk.refl _) ⟨.pur d, rfl⟩
    · rintro es1 (⟨z, rfl⟩ | h)
      · refine r_frz 2 rfl (r_ret (v_var 2 rfl) ?_)
        rw [List.length_map, List.length_range, Int.toNat_natCast]
        exact k
      · exact h.elim
  · have hb' := of_decide_eq_false hb
    unfold lawRow at k
    rw [if_neg hb'] at k
    refine r_set (d := .int (iabs c % 2147483629 + 1)) 5 gd (v_add (v_mod (by decide) (v_intI T.int (v_var 3 rfl)) v_int) v_int) ?_
    refine r_for gd (i_range T.range (v_var 1 rfl) (by omega) (by omega)) (fun i es => ∃ z, es = [.pur (.int c), .pur (.int n), .own ((rnd (iabs c % 2147483629 + 1) i).map PyData.int), .pur (.int (iabs c)), z, .pur (.int (rndAt (iabs c % 2147483629 + 1) i))]) (fun _ => False) [4] ⟨.emp, rfl⟩ ?_ ?_
    · rintro i d es1 hi ⟨z, rfl⟩
      refine ⟨_, g_name 4 gd.nd (by decide), ?_⟩
      have hi' : i < n := by
        have := (List.getElem?_eq_some_iff.mp hi).1
        simpa using this
      have hlen : (rnd (iabs c % 2147483629 + 1) i).length = i := by unfold rnd; simp
      refine r_set (d := .int (rndAt (iabs c % 2147483629 + 1) (i + 1))) 5 gd (v_mod (by decide) (v_intI T.int (v_mul (.inr ⟨by decide, by decide⟩) (v_var 5 rfl) v_int)) v_int) ?_
      refine r_app 2 gd rfl (v_band (v_add (v_div ⟨by decide, by decide⟩ (v_var 5 rfl) v_int) (v_var 5 rfl)) v_int) (by rw [List.length_map, hlen]; omega) ?_
      have e2 : (rnd (iabs c % 2147483629 + 1) i).map PyData.int ++ [.int (Builtin.bitAnd (rndAt (iabs c % 2147483629 + 1) (i + 1) / 7 + rndAt (iabs c % 2147483629 + 1) (i + 1)) 255)] = (rnd (iabs c % 2147483629 + 1) (i + 1)).map PyData.int := by
        unfold rnd
        rw [List.range_succ, List.map_append, List.map_append] <;> rfl
      rw [e2]
      exact r_nil (Wk.refl _) ⟨.pur d, rfl⟩
    · rintro es1 (⟨z, rfl⟩ | h)
      · refine r_frz 2 rfl (r_ret (v_var 2 rfl) ?_)
        rw [List.length_map, List.length_range, Int.toNat_natCast]
        exact k
      · exact h.elim
theorem ok_llow (T : Gs K mg) (F : Fun K "_law_low" "_law_low" sLLow f fd) : FnOk P w K mg base CX0 1 f fd ["_law_number_here", "_law_size"] (spD K preToLow2) := by
  refine okD F scLLow (fun ds d ⟨_, _, e, _⟩ => by rw [e]; rfl) (by decide) fun cdv A outer s H E hr gd ds d hp Ge He Q k => ?_
  obtain ⟨n, m, rfl, hm, rfl⟩ := hp
  refine r_own 2 gd (n_lst a_nil) ?_
  refine r_for gd (i_range T.range (v_var 1 rfl) (by omega) (by omega)) (fun i es => ∃ z, es = [.pur (.int (n / 256 ^ i)), .pur (.int m), .own ((low2 n i).map PyData.int), z]) (fun _ => False) [3] ⟨.emp, ?_⟩ ?_ ?_
  · rw [Int.pow_zero, Int.ediv_one]
    rfl
  · rintro i d es1 hi ⟨z, rfl⟩
    refine ⟨_, g_name 3 gd.nd (by decide), ?_⟩
    have hi' : i < m := by
      have := (List.getElem?_eq_some_iff.mp hi).1
      simpa using this
    refine r_app 2 gd rfl (v_band (v_var 0 rfl) v_int) (by rw [List.length_map, low2_len]; omega) ?_
    refine r_set 0 gd (v_shr (by decide) (v_var 0 rfl) v_int) ?_
    have e1 : n / 256 ^ i / 2 ^ (8 : Int).toNat = n / 256 ^ (i + 1) := by
      rw [Int.ediv_ediv_of_nonneg (by exact Int.pow_nonneg (by decide)), Int.pow_succ] <;> rfl
    have e2 : (low2 n i).map PyData.int ++ [.int (Builtin.bitAnd (n / 256 ^ i) 255)] = (low2 n (i + 1)).map PyData.int := by
      unfold low2
      rw [List.range_succ, List.map_append, List.map_append] <;> rfl
    rw [e1, e2]
    exact r_nil (Wk.refl _) ⟨.pur d, rfl⟩
  · rintro es1 (⟨z, rfl⟩ | h)
    · refine r_frz 2 rfl (r_ret (v_var 2 rfl) ?_)
      rw [List.length_map, List.length_range, Int.toNat_natCast]
      exact k
    · exact h.elim
theorem ok_lnum (T : Gs K mg) (F : Fun K "_law_number" "_law_number" sLNum f fd) : FnOk P w K mg base CX0 1 f fd ["_law_row_here"] (spD K preLow) := by
  refine okD F scLNum (fun ds d ⟨_, e, _⟩ => by rw [e]; rfl) (by decide) fun cdv A outer s H E hr gd ds d hp Ge He Q k => ?_
  obtain ⟨xs, rfl, rfl⟩ := hp
  refine r_set 1 gd v_int ?_
  refine r_for gd (i_rev T.reversed (v_var 0 rfl)) (fun i es => ∃ z, es = [.pur (il xs), .pur (.int ((xs.reverse.take i).foldl (fun n b => n * 256 + b) 0)), z]) (fun _ => False) [2] ⟨.emp, rfl⟩ ?_ ?_
  · rintro i d es1 hi ⟨z, rfl⟩
    rw [← List.map_reverse, List.getElem?_map] at hi
    obtain ⟨b, hb, rfl⟩ := Option.map_eq_some_iff.mp hi
    refine ⟨_, g_name 2 gd.nd (by decide), ?_⟩
    refine r_set 1 gd (v_add (v_mul (.inl ⟨by decide, by decide⟩) v_int (v_var 1 rfl)) (v_var 2 rfl)) ?_
    rw [Int.mul_comm, ← lowNum_snoc xs i b hb]
    exact r_nil (Wk.refl _) ⟨.pur (.int b), rfl⟩
  · rintro es1 (⟨z, rfl⟩ | h)
    · refine r_ret (v_var 1 rfl) ?_
      rw [List.length_reverse, List.length_map, ← List.length_reverse, List.take_length]
      exact k
    · exact h.elim
theorem ok_codes (T : Gs K mg) (F : Fun K "_law_codes" "_law_codes" sCodes f fd) : FnOk P w K mg base CX0 1 f fd ["_law_text"] (spD K preCodes) := by
  refine okD F scCodes (fun ds d ⟨_, e, _⟩ => by rw [e]; rfl) (by decide) fun cdv A outer s H E hr gd ds d hp Ge He Q k => ?_
  obtain ⟨cs, rfl, hl, rfl⟩ := hp
  refine r_ret (Nv.ev (Nv.to (n_lc [("_law_sign", 1)] gd (fun d => [.pur (.str (tx cs)), .pur d]) (fun _ => true) (fun d => match d with | .str s => .int ((s.cps.getD 0 0 : Nat) : Int) | _ => .none) (i_str (v_var 0 rfl))
    (blkOk_by (N := ["_law_text", "_law_sign"]) (sc := defScope sCodes) (by decide +kernel)) (fun _ _ _ _ _ d hd => gb_name 1 gd) (fun _ _ _ _ _ d hd => s_nil) (fun _ _ _ _ _ d hd hf => ?_) (by rw [List.length_map]; simp [tx]; omega)) ?_)) k
  · obtain ⟨c, _, rfl⟩ := List.mem_map.mp hd
    exact v_ord T.ord (v_var 1 rfl)
  · rw [map_true (fun c => PyData.str ⟨#[c]⟩) _ (fun c => .int (c : Int)) _ fun c _ => rfl]
    unfold castI
    rw [List.map_map]
    simp [tx]
theorem ok_mhead (T : Gs K mg) (F : Fun K "_law_make_head" "_law_make_head" sMHead f fd) (cC : CalD P w K mg base 1 "_law_codes" ["_law_text"] preCodes) (cL : CalD P w K mg base 1 "_law_low" ["_law_number_here", "_law_size"] preToLow2) : FnOk P w K mg base CX0 2 f fd ["_law_cell_here", "_law_name", "_law_data", "_law_size"] (spD K preMHead) := by
  refine okD F scMHead (fun ds d ⟨_, _, _, _, e, _⟩ => by rw [e]; rfl) (by decide) fun cdv A outer s H E hr gd ds d hp Ge He Q k => ?_
  obtain ⟨c, name, data, size, rfl, hn, hd, rfl⟩ := hp
  have hlen : ((name.map PyData.int).length : Int) = (name.length : Int) := by rw [List.length_map]
  have hlen2 : ((data.map PyData.int).length : Int) = (data.length : Int) := by rw [List.length_map]
  refine r_set 4 gd (v_lenL T.len (v_var 2 rfl).lv) ?_
  rw [hlen2]
  refine r_if (fun es => es = [.pur (.int c), .pur (il name), .pur (il data), .pur (.int size), .pur (.int (if c % 9 = 1 then size else data.length)), .emp]) (t_eq (v_mod (by decide) (v_intI T.int (v_var 0 rfl)) v_int) v_int) (fun hb => ?_) (fun hb => ?_) fun es' e => ?_
  · have hb' := of_decide_eq_true hb
    refine r_set 4 gd (v_var 3 rfl) ?_
    rw [if_pos hb']
    exact r_nil (Wk.refl _) rfl
  · have hb' := of_decide_eq_false hb
    rw [if_neg hb']
    exact r_nil (Wk.refl _) rfl
  · subst e
    have low : ∀ {es : List Sl} {e1 e2 : Expr} {p p2 : Pos} {n : Int} {m : Nat}, True := fun {_ _ _ _ _ _ _} => True.intro
    have e0 : (PyData.str (Str.ofString "CRT1")) = .str (tx [67, 82, 84, 49]) := congrArg PyData.str (by decide +kernel)
    refine r_set (d := il ((crt ++ [c / 9 % 6, Builtin.bitAnd (c / 54) 1]) ++ low2 name.length 2)) 5 gd (Nv.to (n_cat (n_cat (v_call cC (hr.mono (by decide)) (a_cons (v_str.to e0) a_nil) ⟨_, rfl, by decide, rfl⟩).lv (n_lst (a_cons (v_mod (by decide) (v_intI T.int (v_div ⟨by decide, by decide⟩ (v_var 0 rfl) v_int)) v_int) (a_cons (v_band (v_intI T.int (v_div ⟨by decide, by decide⟩ (v_var 0 rfl) v_int)) v_int) a_nil))).lv (by simp [castI])).lv
      (v_call cL (hr.mono (by decide)) (a_cons (v_lenL T.len (v_var 1 rfl).lv) (a_cons v_int a_nil)) ⟨_, 2, rfl, by decide, rfl⟩).lv (by simp [castI, low2_len])) (by rw [hlen]; simp [castI, crt])).ev ?_
    refine r_ret (Nv.ev (Nv.to (n_cat (n_cat (n_cat (n_cat (n_cat (v_var 5 rfl).lv (v_call cL (hr.mono (by decide)) (a_cons (v_band (v_intI T.int (v_div ⟨by decide, by decide⟩ (v_var 0 rfl) v_int)) v_int) (a_cons v_int a_nil)) ⟨_, 4, rfl, by decide, rfl⟩).lv ?_).lv
      (v_call cL (hr.mono (by decide)) (a_cons (v_band (v_intI T.int (v_div ⟨by decide, by decide⟩ (v_var 0 rfl) v_int)) v_int) (a_cons v_int a_nil)) ⟨_, 4, rfl, by decide, rfl⟩).lv ?_).lv
      (v_call cL (hr.mono (by decide)) (a_cons (v_var 4 rfl) (a_cons v_int a_nil)) ⟨_, 4, rfl, by decide, rfl⟩).lv ?_).lv (v_var 1 rfl).lv ?_).lv (v_var 2 rfl).lv ?_) ?_)) k
    · simp [low2_len, crt]
    · simp [low2_len, crt]
    · simp [low2_len, crt]
    · simp [low2_len, crt]; omega
    · simp [low2_len, crt]; omega
    · unfold mkHead
      simp only [List.map_append]
theorem ok_mrec (T : Gs K mg) (F : Fun K "_law_make_record" "_law_make_record" sMRec f fd) (cC : CalD P w K mg base 1 "_law_codes" ["_law_text"] preCodes) (cL : CalD P w K mg base 1 "_law_low" ["_law_number_here", "_law_size"] preToLow2) : FnOk P w K mg base CX0 2 f fd ["_law_distance", "_law_name"] (spD K preMRec) := by
  refine okD F scMRec (fun ds d ⟨_, _, e, _⟩ => by rw [e]; rfl) (by decide) fun cdv A outer s H E hr gd ds d hp Ge He Q k => ?_
  obtain ⟨dist, name, rfl, hn, rfl⟩ := hp
  have e0 : (PyData.str (Str.ofString "CDIR")) = .str (tx [67, 68, 73, 82]) := congrArg PyData.str (by decide +kernel)
  refine r_ret (Nv.ev (Nv.to (n_cat (n_cat (n_cat (v_call cC (hr.mono (by decide)) (a_cons (v_str.to e0) a_nil) ⟨_, rfl, by decide, rfl⟩).lv (v_call cL (hr.mono (by decide)) (a_cons (v_var 0 rfl) (a_cons v_int a_nil)) ⟨_, 4, rfl, by decide, rfl⟩).lv (by simp [castI, low2_len])).lv
    (v_call cL (hr.mono (by decide)) (a_cons (v_lenL T.len (v_var 1 rfl).lv) (a_cons v_int a_nil)) ⟨_, 2, rfl, by decide, rfl⟩).lv (by simp [castI, low2_len])).lv (v_var 1 rfl).lv (by simp [castI, low2_len]; omega)) ?_)) k
  unfold mkRec
  rw [List.length_map]
  simp [castI, cdir]
theorem ok_mname (T : Gs K mg) (F : Fun K "_law_make_name" "_law_make_name" sMName f fd) (cC : CalD P w K mg base 1 "_law_codes" ["_law_text"] preCodes) : FnOk P w K mg base CX0 2 f fd ["_law_cell_here"] (spD K preMName) := by
  refine okD F scMName (fun ds d ⟨_, e, _⟩ => by rw [e]; rfl) (by decide) fun cdv A outer s H E hr gd ds d hp Ge He Q k => ?_
  obtain ⟨c, rfl, rfl⟩ := hp
  have s5 : ∀ {X : Cx} {es : List Sl} {j1 j2 : Nat} {p1 p2 p3 : Pos}, Ev X es (.BinOp (.Constant (.str (Str.ofString "x")) j1 p1) .Mult (.Constant (.int 5) j2 p2) p3) (.str (tx [120, 120, 120, 120, 120])) := fun {X es j1 j2 p1 p2 p3} =>
    o_bin op_mulS mono_dat anti_c v_str v_int fun G H v u Q E h1 h2 k => ⟨Str.ofString "x", 5, Dt.str_inv h1, Dt.int_inv h2, by decide, by decide, by decide +kernel, by decide +kernel, by decide +kernel, k _ G H (Grow.refl E) (by
      have e : (⟨(List.replicate 5 (Str.ofString "x").cps).foldl (· ++ ·) #[]⟩ : Str) = tx [120, 120, 120, 120, 120] := by decide +kernel
      rw [e]
      exact .str _)⟩
  have n1 : PyData.str (Str.ofString "a") = .str (tx [97]) := congrArg PyData.str (by decide +kernel)
  have n2 : PyData.str (Str.ofString "b") = .str (tx [98]) := congrArg PyData.str (by decide +kernel)
  have n3 : PyData.str (Str.ofString "A") = .str (tx [65]) := congrArg PyData.str (by decide +kernel)
  have n4 : PyData.str (Str.ofString "dir/a") = .str (tx [100, 105, 114, 47, 97]) := congrArg PyData.str (by decide +kernel)
  have n5 : PyData.str (Str.ofString "../a") = .str (tx [46, 46, 47, 97]) := congrArg PyData.str (by decide +kernel)
  have n6 : PyData.str (Str.ofString "") = .str (tx []) := congrArg PyData.str (by decide +kernel)
  have n8 : PyData.str (Str.ofString "b.txt") = .str (tx [98, 46, 116, 120, 116]) := congrArg PyData.str (by decide +kernel)
  have n9 : PyData.str (Str.ofString "c") = .str (tx [99]) := congrArg PyData.str (by decide +kernel)
  refine r_set (d := .list [.str (tx [97]), .str (tx [98]), .str (tx [65]), .str (tx [100, 105, 114, 47, 97]), .str (tx [46, 46, 47, 97]), .str (tx []), .str (tx [120, 120, 120, 120, 120]), .str (tx [98, 46, 116, 120, 116]), .str (tx [99])]) 1 gd
    (n_lst (a_cons (v_str.to n1) (a_cons (v_str.to n2) (a_cons (v_str.to n3) (a_cons (v_str.to n4) (a_cons (v_str.to n5) (a_cons (v_str.to n6) (a_cons s5 (a_cons (v_str.to n8) (a_cons (v_str.to n9) a_nil))))))))) (by decide)).ev ?_
  have h9 : (c % 9).toNat < 9 := by omega
  refine r_ret (v_call cC (hr.mono (by decide)) (a_cons (v_ixL (j := (c % 9).toNat) (d := .str (tx (nmTab.getD (c % 9).toNat []))) (v_var 1 rfl).lv ((v_mod (by decide) (v_intI T.int (v_var 0 rfl)) v_int).n _ (by omega)) ?_) a_nil) ⟨_, rfl, ?_, rfl⟩) k
  · show (nmTab.map fun cs => PyData.str (tx cs))[(c % 9).toNat]? = _
    rw [List.getElem?_map, List.getD_eq_getElem?_getD, List.getElem?_eq_getElem (by exact h9)] <;> rfl
  · have h := (bytes_mkName c).2
    unfold mkName castI at h
    rw [List.length_map] at h
    omega
end
end K9
namespace K9
open PySem PySem.Spec PyProof.Rows L2 Evl
/-! ### promises that tell a property of the answer -/
def spR (K : PySem.W.Frag) (pre : List PyData → Prop) (post : List PyData → PyData → Prop) : Sp := fun vs H Q _ => ∃ G ds, Ex G H ∧ Da K G vs ds ∧ pre ds ∧ ∀ d v G2 H2, post ds d → Grow G H G2 H2 → Dt K G2 v d → Q v H2
theorem start_sls {K : PySem.W.Frag} {He G H : Hp} {N : List Str} {vs : List V} {ds : List PyData} (D : Da K G vs ds) (hN : ds.length ≤ N.length) : Sls K He G H (L2.start N vs) (ds.map .pur ++ List.replicate (N.length - ds.length) .emp) := by
  unfold L2.start
  refine ⟨by simp [D.1], fun i o e a b => ?_, fun i j q d1 d2 hij a b c => ?_⟩
  · by_cases hi : i < ds.length
    · rw [List.getElem?_append_left (by simpa using hi), List.getElem?_map] at b
      rw [List.getElem?_append_left (by simpa [D.1] using hi), List.getElem?_map] at a
      cases q : ds[i]? with
      | none => rw [q] at b; cases b
      | some d0 =>
        rw [q] at b
        cases b
        obtain ⟨v, hv, t⟩ := D.at q
        rw [hv] at a
        cases a
        exact ⟨v, rfl, t⟩
    · rw [List.getElem?_append_right (by simpa using hi), List.getElem?_replicate] at b
      split at b
      · cases b
        trivial
      · cases b
  · exfalso
    by_cases hi : i < ds.length
    · rw [List.getElem?_append_left (by simpa using hi), List.getElem?_map] at a
      cases q : ds[i]? with
      | none => rw [q] at a; cases a
      | some d0 => rw [q] at a; cases a
    · rw [List.getElem?_append_right (by simpa using hi), List.getElem?_replicate] at a
      split at a <;> cases a
theorem okG {P : Program} {w : World} {K : PySem.W.Frag} {mg : Str → Option Value} {base : Heap} {x qual : Str} {st : Stmt} {f : Addr} {fd : FuncData} {N ps : List Str} {k : Nat} {sp : Sp} (F : Fun K x qual st f fd) (S : FnScope N ps (defScope st))
    (len : ∀ vs H Q E, sp vs H Q E → vs.length = ps.length)
    (body : ∀ (cdv : Value) (A : Around) (outer : List Env) (s : Shared) (H : Hp) (vs : List V) (Q : VK) (E : XK), Room k (A.deeper (envOfC qual (defScope st) s.heap.objs.size f cdv)) → Good (cxOf CX0 P w K mg base N qual (defScope st) f cdv A outer s H E).nox → sp vs H Q E →
      ∃ (Ge He G : Hp) (es : List Sl), Grow Ge He G H ∧ Sls K He G H (L2.start N vs) es ∧ Run (cxOf CX0 P w K mg base N qual (defScope st) f cdv A outer s H E).nox Ge He Q es (defBody st) { nx := fun _ => False }) :
    FnOk P w K mg base CX0 (k + 1) f fd ps sp := by
  refine F.ok S len (fun cdv A outer s H vs Q E hr h => ?_)
  have gd : Good (cxOf CX0 P w K mg base N qual (defScope st) f cdv A outer s H E).nox := ⟨S.nd, rfl, PassesOwn.never, hr.units⟩
  obtain ⟨Ge, He, G, es, gr, Sl0, R⟩ := body cdv A outer s H vs Q E hr gd h
  refine ⟨_, pS, ?_⟩
  have R2 := R.run (L2.start N vs) G H gr Sl0
  refine ⟨fun pins s' I => ?_⟩
  refine thn (R2.go pins s' I) fun fl s2 q => ?_
  cases fl with
  | next =>
    obtain ⟨σ', H', I', G', es', _, _, _, m⟩ := q
    exact m.elim
  | brk =>
    obtain ⟨σ', H', I', G', es', _, _, _, m⟩ := q
    exact m.elim
  | cont =>
    obtain ⟨σ', H', I', G', es', _, _, _, m⟩ := q
    exact m.elim
  | ret u => exact q
theorem okR {P : Program} {w : World} {K : PySem.W.Frag} {mg : Str → Option Value} {base : Heap} {x qual : Str} {st : Stmt} {f : Addr} {fd : FuncData} {N ps : List Str} {k : Nat} {pre : List PyData → Prop} {post : List PyData → PyData → Prop} (F : Fun K x qual st f fd) (S : FnScope N ps (defScope st))
    (len : ∀ ds, pre ds → ds.length = ps.length) (hNl : ps.length ≤ N.length)
    (body : ∀ (cdv : Value) (A : Around) (outer : List Env) (s : Shared) (H : Hp) (E : XK), Room k (A.deeper (envOfC qual (defScope st) s.heap.objs.size f cdv)) → Good (cxOf CX0 P w K mg base N qual (defScope st) f cdv A outer s H E).nox →
      ∀ ds, pre ds → ∀ (Ge He : Hp) (Q : VK), (∀ d, post ds d → ∀ v G2 H2, Grow Ge He G2 H2 → Dt K G2 v d → Q v H2) → Run (cxOf CX0 P w K mg base N qual (defScope st) f cdv A outer s H E).nox Ge He Q (ds.map .pur ++ List.replicate (N.length - ds.length) .emp) (defBody st) { nx := fun _ => False }) :
    FnOk P w K mg base CX0 (k + 1) f fd ps (spR K pre post) := by
  refine okG F S (fun vs H Q E h => ?_) (fun cdv A outer s H vs Q E hr gd h => ?_)
  · obtain ⟨G, ds, _, D, hp, _⟩ := h
    rw [D.1]
    exact len ds hp
  · obtain ⟨G, ds, ex, D, hp, kk⟩ := h
    exact ⟨G, H, G, _, Grow.refl ex, start_sls D (by rw [len ds hp]; exact hNl), body cdv A outer s H E hr gd ds hp G H Q fun d pd v G2 H2 g t => kk d v G2 H2 pd g t⟩
theorem rep_one (n : Nat) (b : Int) : (List.replicate n [PyData.int b]).flatten = (List.replicate n b).map PyData.int := by
  induction n with
  | zero => rfl
  | succ n ih => rw [List.replicate_succ, List.flatten_cons, ih, List.replicate_succ] <;> rfl
theorem bytes_rep {b : Int} (h : 0 ≤ b ∧ b ≤ 255) (n : Nat) : bytes (List.replicate n b) := fun c hc => by
  rw [List.eq_of_mem_replicate hc]
  exact h
def preCrate (ds : List PyData) : Prop := ∃ ns : List Int, ds = [scr ns] ∧ ns.length ≤ 63
def postBytes (n : Nat) (d : PyData) : Prop := ∃ xs : List Int, bytes xs ∧ xs.length ≤ n ∧ d = il xs
theorem scCrate : FnScope ["_law_script", "_law_data", "_law_places", "_law_many", "_law_k", "_law_cell_here", "_law_part", "_law_records", "_law_at", "_law_name", "_law_place", "_law_start", "_law_end", "_law_count", "_law_back", "_law_record"] ["_law_script"] (defScope sCrate) := ⟨rfl, rfl, rfl, by decide +kernel, rfl, by decide +kernel, by decide +kernel⟩
theorem sum_map_len (ps : List (Nat × List Int)) : 0 ≤ (ps.map fun p => 10 + (p.2.length : Int)).sum := by
  induction ps with
  | nil => exact Int.le_refl _
  | cons p ps ih =>
    rw [List.map_cons, List.sum_cons]
    omega
section
variable {P : Program} {w : World} {K : PySem.W.Frag} {mg : Str → Option Value} {base : Heap} {f : Addr} {fd : FuncData}
theorem ok_crate (T : Gs K mg) (F : Fun K "_law_crate" "_law_crate" sCrate f fd) (cCell : CalD P w K mg base 1 "_law_cell" ["_law_script", "_law_k"] preCell) (cRow : CalD P w K mg base 1 "_law_row" ["_law_cell_here", "_law_count"] preRow) (cCo : CalD P w K mg base 1 "_law_codes" ["_law_text"] preCodes)
    (cL : CalD P w K mg base 1 "_law_low" ["_law_number_here", "_law_size"] preToLow2) (cMH : CalD P w K mg base 2 "_law_make_head" ["_law_cell_here", "_law_name", "_law_data", "_law_size"] preMHead) (cMR : CalD P w K mg base 2 "_law_make_record" ["_law_distance", "_law_name"] preMRec) (cMN : CalD P w K mg base 2 "_law_make_name" ["_law_cell_here"] preMName) :
    FnOk P w K mg base CX0 3 f fd ["_law_script"] (spR K preCrate fun _ => postBytes 500) := by
  refine okR F scCrate (fun ds ⟨_, e, _⟩ => by rw [e]; rfl) (by decide) fun cdv A outer s H E hr gd ds hp Ge He Q k => ?_
  obtain ⟨ns, rfl, hns⟩ := hp
  have c0 := iabs_nn (lawCell ns 0)
  -- the bytes ahead
  refine r_set (d := il (lawRow (lawCell ns 1) (iabs (lawCell ns 0) % 12).toNat)) 1 gd (v_call cRow (hr.mono (by decide)) (a_cons (v_call cCell (hr.mono (by decide)) (a_cons (v_var 0 rfl) (a_cons v_int a_nil)) ⟨ns, 1, rfl, rfl⟩)
    (a_cons (Ev.n (i := iabs (lawCell ns 0) % 12) (iabs (lawCell ns 0) % 12).toNat (v_mod (by decide) (v_intI T.int (v_abs T.abs (v_call cCell (hr.mono (by decide)) (a_cons (v_var 0 rfl) (a_cons v_int a_nil)) ⟨ns, 0, rfl, rfl⟩))) v_int) (by omega)) a_nil)) ⟨_, _, rfl, by omega, rfl⟩) ?_
  obtain ⟨b0, l0⟩ := bytes_row (lawCell ns 1) (iabs (lawCell ns 0) % 12).toNat
  generalize lawRow (lawCell ns 1) (iabs (lawCell ns 0) % 12).toNat = x0 at b0 l0 ⊢
  refine r_own 2 gd (n_lst a_nil) ?_
  refine r_set 3 gd (Ev.n (i := iabs (lawCell ns 0) / 12 % 6) (iabs (lawCell ns 0) / 12 % 6).toNat (v_mod (by decide) (v_intI T.int (v_div ⟨by decide, by decide⟩ (v_abs T.abs (v_call cCell (hr.mono (by decide)) (a_cons (v_var 0 rfl) (a_cons v_int a_nil)) ⟨ns, 0, rfl, rfl⟩)) v_int)) v_int) (by omega)) ?_
  have hmany : (iabs (lawCell ns 0) / 12 % 6).toNat ≤ 5 := by omega
  generalize (iabs (lawCell ns 0) / 12 % 6).toNat = many at hmany ⊢
  -- the pieces
  refine r_for gd (i_range T.range (v_var 3 rfl) (by omega) (by omega)) (fun i es => ∃ (xs : List Int) (ps : List (Nat × List Int)) (z4 z5 z6 : Sl), es = [.pur (scr ns), .pur (il xs), .own (ps.map ppy), .pur (.int many), z4, z5, z6, .emp, .emp, .emp, .emp, .emp, .emp, .emp, .emp, .emp] ∧
      bytes xs ∧ xs.length ≤ 11 + 40 * i ∧ ps.length = i ∧ ∀ p ∈ ps, p.1 ≤ xs.length ∧ bytes p.2 ∧ p.2.length ≤ 5) (fun _ => False) [4]
    ⟨x0, [], .emp, .emp, .emp, rfl, b0, by omega, rfl, fun p h => nomatch h⟩ ?_ ?_
  · rintro i d es1 hi ⟨xs, ps, z4, z5, z6, rfl, bx, lx, lp, hps⟩
    rw [List.getElem?_map] at hi
    obtain ⟨j, hj, rfl⟩ := Option.map_eq_some_iff.mp hi
    have hji : j = i := by
      obtain ⟨h1, h2⟩ := List.getElem?_eq_some_iff.mp hj
      simpa using h2.symm
    subst hji
    have hjm : j < many := by
      have := (List.getElem?_eq_some_iff.mp hj).1
      simpa using this
    refine ⟨_, g_name 4 gd.nd (by decide), ?_⟩
    refine r_set (d := .int (iabs (lawCell ns (2 + j)))) 5 gd (v_abs T.abs (v_call cCell (hr.mono (by decide)) (a_cons (v_var 0 rfl) (a_cons (Ev.n (2 + j) (v_add v_int (v_var 4 rfl))) a_nil)) ⟨ns, 2 + j, rfl, rfl⟩)) ?_
    have hC := iabs_nn (lawCell ns (2 + j))
    generalize iabs (lawCell ns (2 + j)) = C at hC ⊢
    refine r_set (d := il (lawRow (C / 977) (C / 31 % 14).toNat)) 6 gd (v_call cRow (hr.mono (by decide)) (a_cons (v_div ⟨by decide, by decide⟩ (v_var 5 rfl) v_int) (a_cons (Ev.n (i := C / 31 % 14) (C / 31 % 14).toNat (v_mod (by decide) (v_intI T.int (v_div ⟨by decide, by decide⟩ (v_var 5 rfl) v_int)) v_int) (by omega)) a_nil)) ⟨_, _, rfl, by omega, rfl⟩) ?_
    obtain ⟨b1, l1⟩ := bytes_row (C / 977) (C / 31 % 14).toNat
    generalize lawRow (C / 977) (C / 31 % 14).toNat = pt at b1 l1 ⊢
    obtain ⟨b2, l2⟩ := bytes_mkName (C / 7)
    refine r_app 2 gd rfl (v_tup (a_cons (v_lenL T.len (v_var 1 rfl).lv) (a_cons (v_call cMN (hr.mono (by decide)) (a_cons (v_div ⟨by decide, by decide⟩ (v_var 5 rfl) v_int) a_nil) ⟨C / 7, rfl, rfl⟩) a_nil))) (by rw [List.length_map]; omega) ?_
    obtain ⟨b3, l3⟩ := bytes_mkHead (size := C / 5 % 60) hC (by omega) b2 b1
    refine r_set (d := il (xs ++ mkHead C (mkName (C / 7)) pt (C / 5 % 60))) 1 gd (Nv.to (n_cat (v_var 1 rfl).lv (v_call cMH (hr.mono (by decide)) (a_cons (v_var 5 rfl) (a_cons (v_call cMN (hr.mono (by decide)) (a_cons (v_div ⟨by decide, by decide⟩ (v_var 5 rfl) v_int) a_nil) ⟨C / 7, rfl, rfl⟩) (a_cons (v_var 6 rfl) (a_cons (v_mod (by decide) (v_intI T.int (v_div ⟨by decide, by decide⟩ (v_var 5 rfl) v_int)) v_int) a_nil))))
      ⟨C, mkName (C / 7), pt, C / 5 % 60, rfl, by omega, by omega, rfl⟩).lv (by rw [List.length_map, List.length_map]; omega)) (by rw [List.map_append])).ev ?_
    have hb : 0 ≤ Builtin.bitAnd C 255 ∧ Builtin.bitAnd C 255 ≤ 255 := by rw [and255 hC]; omega
    refine r_set (d := il ((xs ++ mkHead C (mkName (C / 7)) pt (C / 5 % 60)) ++ List.replicate (C / 11 % 3).toNat (Builtin.bitAnd C 255))) 1 gd (Nv.to (n_cat (v_var 1 rfl).lv (n_rep (n := (C / 11 % 3).toNat) (n_lst (a_cons (v_band (v_intI T.int (v_var 5 rfl)) v_int) a_nil)).lv
      (Ev.n (i := C / 11 % 3) (C / 11 % 3).toNat (v_mod (by decide) (v_intI T.int (v_div ⟨by decide, by decide⟩ (v_var 5 rfl) v_int)) v_int) (by omega)) (by simp; omega) (by omega)).lv (by rw [rep_one, List.length_map, List.length_map, List.length_append, List.length_replicate]; omega)) (by rw [rep_one, ← List.map_append])).ev ?_
    have e2 : ps.map ppy ++ [.tuple [.int ((xs.map PyData.int).length : Int), .list ((mkName (C / 7)).map PyData.int)]] = (ps ++ [(xs.length, mkName (C / 7))]).map ppy := by
      rw [List.map_append, List.length_map]
      rfl
    rw [e2]
    refine r_nil (Wk.refl _) ⟨_, _, _, _, _, rfl, bytes_app (bytes_app bx b3) (bytes_rep hb _), ?_, by rw [List.length_append, lp]; rfl, fun p hp => ?_⟩
    · rw [List.length_append, List.length_append, List.length_replicate]
      omega
    · have hle : xs.length ≤ ((xs ++ mkHead C (mkName (C / 7)) pt (C / 5 % 60)) ++ List.replicate (C / 11 % 3).toNat (Builtin.bitAnd C 255)).length := by
        rw [List.length_append, List.length_append]
        omega
      rcases List.mem_append.mp hp with q | q
      · obtain ⟨q1, q2⟩ := hps p q
        exact ⟨Nat.le_trans q1 hle, q2⟩
      · rw [List.mem_singleton] at q
        subst q
        exact ⟨hle, b2, l2⟩
  · rintro es1 (⟨xs, ps, z4, z5, z6, rfl, bx, lx, lp, hps⟩ | h)
    · rw [List.length_map, List.length_range, Int.toNat_natCast] at lx lp
      refine r_frz 2 rfl ?_
      -- the records
      refine r_own 7 gd (n_lst a_nil) ?_
      refine r_for gd (i_range (n := (many : Int)) T.range (Ev.to (v_lenL T.len (v_var 2 rfl).lv) (by rw [List.length_map, lp])) (by omega) (by omega)) (fun i es => ∃ (rs : List (Nat × List Int)) (z4 z5 z6 z8 z9 : Sl), es = [.pur (scr ns), .pur (il xs), .pur (.list (ps.map ppy)), .pur (.int many), z4, z5, z6, .own (rs.map ppy), z8, z9, .emp, .emp, .emp, .emp, .emp, .emp] ∧
          rs.length = i ∧ ∀ p ∈ rs, p.1 ≤ xs.length ∧ bytes p.2 ∧ p.2.length ≤ 5) (fun _ => False) [4] ⟨[], z4, z5, z6, .emp, .emp, rfl, rfl, fun p h => nomatch h⟩ ?_ ?_
      · rintro i d es1 hi ⟨rs, z4, z5, z6, z8, z9, rfl, lr, hrs⟩
        rw [List.getElem?_map] at hi
        obtain ⟨j, hj, rfl⟩ := Option.map_eq_some_iff.mp hi
        have hji : j = i := by
          obtain ⟨h1, h2⟩ := List.getElem?_eq_some_iff.mp hj
          simpa using h2.symm
        subst hji
        have hjm : j < many := by
          have := (List.getElem?_eq_some_iff.mp hj).1
          simpa using this
        have hjp : j < ps.length := by omega
        obtain ⟨q1, q2, q3⟩ := hps ps[j] (List.getElem_mem hjp)
        refine ⟨_, g_name 4 gd.nd (by decide), ?_⟩
        refine r_set (d := .int (iabs (lawCell ns (8 + j)))) 5 gd (v_abs T.abs (v_call cCell (hr.mono (by decide)) (a_cons (v_var 0 rfl) (a_cons (Ev.n (8 + j) (v_add v_int (v_var 4 rfl))) a_nil)) ⟨ns, 8 + j, rfl, rfl⟩)) ?_
        have hC := iabs_nn (lawCell ns (8 + j))
        generalize iabs (lawCell ns (8 + j)) = C at hC ⊢
        refine r_unp (ds := [.int (ps[j].1 : Int), il ps[j].2]) gd (v_ixL (j := j) (v_var 2 rfl).lv (v_var 4 rfl) (by rw [List.getElem?_map, List.getElem?_eq_getElem hjp] <;> rfl)) (vs := [8, 9]) (gs_cons (g_name 8 gd.nd (by decide)) (gs_cons (g_name 9 gd.nd (by decide)) gs_nil)) ?_
        refine r_if (fun es => ∃ (a : Nat) (nm : List Int), es = [.pur (scr ns), .pur (il xs), .pur (.list (ps.map ppy)), .pur (.int many), .pur (.int j), .pur (.int C), z6, .own (rs.map ppy), .pur (.int a), .pur (il nm), .emp, .emp, .emp, .emp, .emp, .emp] ∧ a ≤ xs.length ∧ bytes nm ∧ nm.length ≤ 5)
          (t_eq (v_mod (by decide) (v_intI T.int (v_var 5 rfl)) v_int) v_int) (fun _ => ?_) (fun _ => ?_) fun es' ⟨a, nm, e, ha, hb, hl⟩ => ?_
        · obtain ⟨b2, l2⟩ := bytes_mkName (C / 7)
          refine r_set 9 gd (v_call cMN (hr.mono (by decide)) (a_cons (v_div ⟨by decide, by decide⟩ (v_var 5 rfl) v_int) a_nil) ⟨C / 7, rfl, rfl⟩) ?_
          exact r_nil (Wk.refl _) ⟨_, _, rfl, q1, b2, l2⟩
        · exact r_nil (Wk.refl _) ⟨_, _, rfl, q1, q2, q3⟩
        · subst e
          refine r_if (fun es => ∃ (a : Nat), es = [.pur (scr ns), .pur (il xs), .pur (.list (ps.map ppy)), .pur (.int many), .pur (.int j), .pur (.int C), z6, .own (rs.map ppy), .pur (.int a), .pur (il nm), .emp, .emp, .emp, .emp, .emp, .emp] ∧ a ≤ xs.length)
            (t_eq (v_mod (by decide) (v_intI T.int (v_var 5 rfl)) v_int) v_int) (fun _ => ?_) (fun _ => ?_) fun es' ⟨a, e, ha⟩ => ?_
          · have hmod : 0 ≤ C / 7 % ((xs.length : Int) + 1) := Int.emod_nonneg _ (by omega)
            have hmod2 : C / 7 % ((xs.length : Int) + 1) < (xs.length : Int) + 1 := Int.emod_lt_of_pos _ (by omega)
            refine r_set 8 gd (Ev.n (i := C / 7 % ((xs.length : Int) + 1)) (C / 7 % ((xs.length : Int) + 1)).toNat (v_mod (by omega) (v_intI T.int (v_div ⟨by decide, by decide⟩ (v_var 5 rfl) v_int)) (v_add (Ev.to (v_lenL T.len (v_var 1 rfl).lv) (by rw [List.length_map])) v_int)) (by omega)) ?_
            exact r_nil (Wk.refl _) ⟨_, rfl, by omega⟩
          · exact r_nil (Wk.refl _) ⟨_, rfl, ha⟩
          · subst e
            refine r_app 7 gd rfl (v_tup (a_cons (v_var 8 rfl) (a_cons (v_var 9 rfl) a_nil))) (by rw [List.length_map]; omega) ?_
            have e2 : rs.map ppy ++ [.tuple [.int (a : Int), .list (nm.map PyData.int)]] = (rs ++ [(a, nm)]).map ppy := by
              rw [List.map_append]
              rfl
            rw [e2]
            refine r_nil (Wk.refl _) ⟨_, _, _, _, _, _, rfl, by rw [List.length_append, lr] <;> rfl, fun p hp => ?_⟩
            rcases List.mem_append.mp hp with q | q
            · exact hrs p q
            · rw [List.mem_singleton] at q
              subst q
              exact ⟨ha, hb, hl⟩
      · rintro es1 (⟨rs, z4, z5, z6, z8, z9, rfl, lr, hrs⟩ | h)
        · rw [List.length_map, List.length_range, Int.toNat_natCast] at lr
          refine r_frz 7 rfl ?_
          have hsum := sum_map_len rs
          generalize hS : (rs.map fun p => 10 + (p.2.length : Int)).sum = S at hsum
          refine r_set (d := .int ((xs.length : Int) + S)) 10 gd (v_add (Ev.to (v_lenL T.len (v_var 1 rfl).lv) (by rw [List.length_map])) (Ev.to (v_sum (ns := rs.map fun p => 10 + (p.2.length : Int)) gd.calm T.sum ((n_lc [("_law_record", 15)] gd (fun d => [.pur (scr ns), .pur (il xs), .pur (.list (ps.map ppy)), .pur (.int many), z4, z5, z6, .pur (.list (rs.map ppy)), z8, z9, .emp, .emp, .emp, .emp, .emp, .pur d]) (fun _ => true)
            (fun d => match d with | .tuple [_, .list ns] => .int (10 + (ns.length : Int)) | _ => .none) (i_list (v_var 7 rfl)) (blkOk_by (N := ["_law_script", "_law_data", "_law_places", "_law_many", "_law_k", "_law_cell_here", "_law_part", "_law_records", "_law_at", "_law_name", "_law_place", "_law_start", "_law_end", "_law_count", "_law_back", "_law_record"]) (sc := defScope sCrate) (by decide +kernel))
            (fun _ _ _ _ _ d hd => gb_name 15 gd) (fun _ _ _ _ _ d hd => s_nil) (fun _ _ _ _ _ d hd hf => ?_) (by rw [List.length_map]; omega)).to ?_).lv) (by rw [hS]))) ?_
          · obtain ⟨p, _, rfl⟩ := List.mem_map.mp hd
            exact v_add v_int (v_lenL T.len (v_ixT (j := 1) (d := il p.2) (v_var 15 rfl) v_int rfl).lv)
          · rw [map_true ppy _ (fun p => .int (10 + (p.2.length : Int))) rs (fun p _ => by
              show PyData.int (10 + ((p.2.map PyData.int).length : Int)) = _
              rw [List.length_map]), List.map_map]
            rfl
          · refine r_set 11 gd (Ev.to (v_lenL T.len (v_var 1 rfl).lv) (by rw [List.length_map])) ?_
            -- the records written
            refine r_for gd (i_list (v_var 7 rfl)) (fun i es => ∃ (ys : List Int) (z4 z5 z6 z8 z9 : Sl), es = [.pur (scr ns), .pur (il ys), .pur (.list (ps.map ppy)), .pur (.int many), z4, z5, z6, .pur (.list (rs.map ppy)), z8, z9, .pur (.int ((xs.length : Int) + S)), .pur (.int (xs.length : Int)), .emp, .emp, .emp, .emp] ∧
                bytes ys ∧ ys.length ≤ xs.length + 15 * i) (fun _ => False) [8, 9] ⟨xs, z4, z5, z6, z8, z9, rfl, bx, by omega⟩ ?_ ?_
            · rintro i d es1 hi ⟨ys, z4, z5, z6, z8, z9, rfl, by_, ly⟩
              rw [List.getElem?_map] at hi
              obtain ⟨p, hp, rfl⟩ := Option.map_eq_some_iff.mp hi
              obtain ⟨q1, q2, q3⟩ := hrs p (List.mem_of_getElem? hp)
              have hil : i < rs.length := (List.getElem?_eq_some_iff.mp hp).1
              obtain ⟨b3, l3⟩ := bytes_mkRec (dist := (xs.length : Int) + S - p.1) (by omega) q2
              refine ⟨_, g_tup (ds := [.int (p.1 : Int), il p.2]) gd.calm (gs_cons (g_name 8 gd.nd (by decide)) (gs_cons (g_name 9 gd.nd (by decide)) gs_nil)), ?_⟩
              refine r_set (d := il (ys ++ mkRec ((xs.length : Int) + S - p.1) p.2)) 1 gd (Nv.to (n_cat (v_var 1 rfl).lv (v_call cMR (hr.mono (by decide)) (a_cons (v_sub (v_var 10 rfl) (v_var 8 rfl)) (a_cons (v_var 9 rfl) a_nil)) ⟨_, p.2, rfl, by omega, rfl⟩).lv (by rw [List.length_map, List.length_map]; omega)) (by rw [List.map_append])).ev ?_
              exact r_nil (Wk.refl _) ⟨_, _, _, _, _, _, rfl, bytes_app by_ b3, by rw [List.length_append]; omega⟩
            · rintro es1 (⟨ys, z4, z5, z6, z8, z9, rfl, by_, ly⟩ | h)
              · rw [List.length_map] at ly
                -- the end
                refine r_set (d := .int (iabs (lawCell ns 14))) 12 gd (v_abs T.abs (v_call cCell (hr.mono (by decide)) (a_cons (v_var 0 rfl) (a_cons v_int a_nil)) ⟨ns, 14, rfl, rfl⟩)) ?_
                have hC := iabs_nn (lawCell ns 14)
                generalize iabs (lawCell ns 14) = C at hC ⊢
                refine r_set 13 gd (Ev.to (v_lenL T.len (v_var 7 rfl).lv) (by rw [List.length_map])) ?_
                refine r_if (fun es => ∃ n : Int, es = [.pur (scr ns), .pur (il ys), .pur (.list (ps.map ppy)), .pur (.int many), z4, z5, z6, .pur (.list (rs.map ppy)), z8, z9, .pur (.int ((xs.length : Int) + S)), .pur (.int (xs.length : Int)), .pur (.int C), .pur (.int n), .emp, .emp] ∧ 0 ≤ n)
                  (t_eq (v_mod (by decide) (v_intI T.int (v_var 12 rfl)) v_int) v_int) (fun _ => ?_) (fun _ => ?_) fun es' ⟨n, e, hn⟩ => ?_
                · refine r_set 13 gd (v_mod (by decide) (v_intI T.int (v_div ⟨by decide, by decide⟩ (v_var 12 rfl) v_int)) v_int) ?_
                  exact r_nil (Wk.refl _) ⟨_, rfl, by omega⟩
                · exact r_nil (Wk.refl _) ⟨_, rfl, by omega⟩
                · subst e
                  refine r_set (d := .int ((xs.length : Int) + S - (xs.length : Int))) 14 gd (v_sub (v_var 10 rfl) (v_var 11 rfl)) ?_
                  refine r_if (fun es => ∃ m : Int, es = [.pur (scr ns), .pur (il ys), .pur (.list (ps.map ppy)), .pur (.int many), z4, z5, z6, .pur (.list (rs.map ppy)), z8, z9, .pur (.int ((xs.length : Int) + S)), .pur (.int (xs.length : Int)), .pur (.int C), .pur (.int n), .pur (.int m), .emp] ∧ 0 ≤ m)
                    (t_eq (v_mod (by decide) (v_intI T.int (v_var 12 rfl)) v_int) v_int) (fun _ => ?_) (fun _ => ?_) fun es' ⟨m, e, hm⟩ => ?_
                  · refine r_set (d := .int (C / 6 % ((xs.length : Int) + S + 4))) 14 gd (v_mod (by omega) (v_intI T.int (v_div ⟨by decide, by decide⟩ (v_var 12 rfl) v_int)) (v_add (v_var 10 rfl) v_int)) ?_
                    exact r_nil (Wk.refl _) ⟨_, rfl, Int.emod_nonneg _ (by omega)⟩
                  · exact r_nil (Wk.refl _) ⟨_, rfl, by omega⟩
                  · subst e
                    have e0 : (PyData.str (Str.ofString "CEND")) = .str (tx [67, 69, 78, 68]) := congrArg PyData.str (by decide +kernel)
                    refine r_if (fun es => ∃ us : List Int, es = [.pur (scr ns), .pur (il us), .pur (.list (ps.map ppy)), .pur (.int many), z4, z5, z6, .pur (.list (rs.map ppy)), z8, z9, .pur (.int ((xs.length : Int) + S)), .pur (.int (xs.length : Int)), .pur (.int C), .pur (.int n), .pur (.int m), .emp] ∧ bytes us ∧ us.length ≤ ys.length + 10)
                      (t_ne (v_mod (by decide) (v_intI T.int (v_var 12 rfl)) v_int) v_int) (fun _ => ?_) (fun _ => ?_) fun es' ⟨us, e, bu, lu⟩ => ?_
                    · refine r_set (d := il (((ys ++ cend) ++ low2 n 2) ++ low2 m 4)) 1 gd (Nv.to (n_cat (n_cat (n_cat (v_var 1 rfl).lv (v_call cCo (hr.mono (by decide)) (a_cons (v_str.to e0) a_nil) ⟨_, rfl, by decide, rfl⟩).lv (by simp [castI]; omega)).lv (v_call cL (hr.mono (by decide)) (a_cons (v_var 13 rfl) (a_cons v_int a_nil)) ⟨_, 2, rfl, by decide, rfl⟩).lv (by simp [castI, low2_len]; omega)).lv
                        (v_call cL (hr.mono (by decide)) (a_cons (v_var 14 rfl) (a_cons v_int a_nil)) ⟨_, 4, rfl, by decide, rfl⟩).lv (by simp [castI, low2_len]; omega)) (by simp [castI, cend])).ev ?_
                      refine r_nil (Wk.refl _) ⟨_, rfl, bytes_app (bytes_app (bytes_app by_ (by unfold bytes cend; decide)) (bytes_low2 hn 2)) (bytes_low2 hm 4), by simp [low2_len, cend]⟩
                    · exact r_nil (Wk.refl _) ⟨_, rfl, by_, by omega⟩
                    · subst e
                      obtain ⟨b5, l5⟩ := bytes_row (lawCell ns 15) (C / 60 % 14).toNat
                      refine r_ret (d := il (us ++ lawRow (lawCell ns 15) (C / 60 % 14).toNat)) (Nv.ev (Nv.to (n_cat (v_var 1 rfl).lv (v_call cRow (hr.mono (by decide)) (a_cons (v_call cCell (hr.mono (by decide)) (a_cons (v_var 0 rfl) (a_cons v_int a_nil)) ⟨ns, 15, rfl, rfl⟩) (a_cons (Ev.n (i := C / 60 % 14) (C / 60 % 14).toNat (v_mod (by decide) (v_intI T.int (v_div ⟨by decide, by decide⟩ (v_var 12 rfl) v_int)) v_int) (by omega)) a_nil)) ⟨_, _, rfl, by omega, rfl⟩).lv
                        (by rw [List.length_map, List.length_map]; omega)) (by rw [List.map_append]))) (k _ ⟨_, bytes_app bu b5, by rw [List.length_append]; omega, rfl⟩)
              · exact h.elim
        · exact h.elim
    · exact h.elim
end
end K9
namespace K9
open PySem PySem.Spec PyProof.Rows L2 Evl
def hid (H : Hp) (p : Addr) : Hp := fun b => if b = p then none else H b
theorem hid_same {H : Hp} {p : Addr} : hid H p p = none := if_pos rfl
theorem hid_ex {H : Hp} {p : Addr} : Ex (hid H p) H := fun b u e => by
  unfold hid at e
  split at e
  · cases e
  · exact e
def spSpoilt (K : PySem.W.Frag) : Sp := fun vs H Q _ => ∃ (G : Hp) (a p : Addr) (ns xs : List Int), vs = [.ref a, .ref p] ∧ Ex G (hid H p) ∧ SqL K G a (ns.map V.int) ∧ ns.length ≤ 63 ∧ H p = some (.lst (xs.map V.int)) ∧ bytes xs ∧ xs.length ≤ 500 ∧
  ∀ ys v G2 H2, bytes ys → ys.length ≤ 1500 → Grow G (hid H p) G2 H2 → Dt K G2 v (il ys) → Q v H2
theorem xor_byte {x y : Int} (hx : 0 ≤ x ∧ x ≤ 255) (hy : 0 ≤ y ∧ y ≤ 255) : 0 ≤ Builtin.bitXor x y ∧ Builtin.bitXor x y ≤ 255 := by
  rw [Bits.bitXor_pp hx.1 hy.1]
  have h : x.toNat ^^^ y.toNat < 2 ^ 8 := Nat.xor_lt_two_pow (by omega) (by omega)
  omega
theorem bytes_set {xs : List Int} (h : bytes xs) {b : Int} (hb : 0 ≤ b ∧ b ≤ 255) (j : Nat) : bytes (xs.set j b) := fun c hc => by
  rcases List.mem_or_eq_of_mem_set hc with q | q
  · exact h c q
  · rw [q]; exact hb
theorem set_map_int (xs : List Int) (b : Int) : ∀ j, (xs.map PyData.int).set j (.int b) = (xs.set j b).map PyData.int := fun j => (List.map_set).symm
theorem scSpoilt : FnScope ["_law_script", "_law_data", "_law_k", "_law_cell_here", "_law_at", "_law_end", "_law_which"] ["_law_script", "_law_data"] (defScope sSpoilt) := ⟨rfl, rfl, rfl, by decide +kernel, rfl, by decide +kernel, by decide +kernel⟩
theorem scLStands : FnScope ["_law_data", "_law_entry", "_law_name", "_law_method", "_law_size", "_law_total", "_law_part", "_law_sign", "_law_tail", "_law_at", "_law_first"] ["_law_data", "_law_entry"] (defScope sLStands) := ⟨rfl, rfl, rfl, by decide +kernel, rfl, by decide +kernel, by decide +kernel⟩
/-- an entry stands in the bytes at a place -/
def standsE (xs : List Int) (e : Ep) (a : Nat) : Prop :=
  a + 20 ≤ xs.length ∧ xs[a]? = some 67 ∧ (xs.drop a).take 5 = crt ++ [e.meth] ∧ (xs.drop (a + 8)).take 8 = low2 e.size 4 ++ low2 e.total 4 ∧ firstOf xs a ≤ xs.length ∧ (xs.drop (firstOf xs a)).take e.part.length = e.part
def preLStands (ds : List PyData) (d : PyData) : Prop := ∃ (xs : List Int) (e : Ep), ds = [il xs, e.py] ∧ bytes xs ∧ xs.length ≤ 60000 ∧ e.part.length ≤ 60000 ∧ (∃ a, standsE xs e a) ∧ d = .bool true
section
variable {P : Program} {w : World} {K : PySem.W.Frag} {mg : Str → Option Value} {base : Heap} {f : Addr} {fd : FuncData}
theorem ok_spoilt (T : Gs K mg) (F : Fun K "_law_spoilt" "_law_spoilt" sSpoilt f fd) : FnOk P w K mg base CX0 1 f fd ["_law_script", "_law_data"] (spSpoilt K) := by
  refine okG F scSpoilt (fun vs H Q E ⟨_, _, _, _, _, e, _⟩ => by rw [e]; rfl) fun cdv A outer s H vs Q E hr gd h => ?_
  obtain ⟨G, a, p, ns, xs0, rfl, ex, hS, hns, hp, bx0, lx0, k⟩ := h
  have hGp : G p = none := ex_none ex hid_same
  refine ⟨G, hid H p, G, [.pur (scr ns), .own (xs0.map PyData.int), .emp, .emp, .emp, .emp, .emp], ⟨Ex.refl _, hid_ex, ex.trans hid_ex, fun b h1 h2 => absurd h1 h2⟩, ?_, ?_⟩
  · refine ⟨rfl, fun i o e h1 h2 => ?_, fun i j q ds ds' hij h1 h2 h3 => ?_⟩
    · match i, h1, h2 with
      | 0, h1, h2 => cases h1; cases h2; exact ⟨_, rfl, .scr hS⟩
      | 1, h1, h2 => cases h1; cases h2; exact ⟨p, _, rfl, hid_same, hGp, hp, da_ints xs0⟩
      | 2, h1, h2 => cases h2; trivial
      | 3, h1, h2 => cases h2; trivial
      | 4, h1, h2 => cases h2; trivial
      | 5, h1, h2 => cases h2; trivial
      | 6, h1, h2 => cases h2; trivial
      | (n + 7), h1, h2 => cases h2
    · have own1 : ∀ (m : Nat) x, ([.pur (scr ns), .own (xs0.map PyData.int), .emp, .emp, .emp, .emp, .emp] : List Sl)[m]? = some (.own x) → m = 1 := by
        intro m x hm
        match m, hm with
        | 0, hm => cases hm
        | 1, _ => rfl
        | 2, hm => cases hm
        | 3, hm => cases hm
        | 4, hm => cases hm
        | 5, hm => cases hm
        | 6, hm => cases hm
        | (n + 7), hm => cases hm
      exact absurd ((own1 i _ h1).trans (own1 j _ h2).symm) hij
  -- the rounds
  refine r_for gd (i_range2 (lo := 16) (n := min 22 (ns.length : Int)) T.range (a_cons v_int (a_cons (Ev.to (v_min gd.calm T.min (a_cons v_int (a_cons (v_lenScr T.len (v_var 0 rfl)) a_nil))) (by
      show PyData.int (if (ns.length : Int) < 22 then (ns.length : Int) else 22) = _
      congr 1
      split <;> omega)) a_nil)) ⟨by decide, by decide⟩ (by omega) (by omega))
    (fun i es => ∃ (xs : List Int) (z2 z3 z4 z5 z6 : Sl), es = [.pur (scr ns), .own (xs.map PyData.int), z2, z3, z4, z5, z6] ∧ bytes xs ∧ xs.length ≤ 500 + 60 * i) (fun _ => False) [2] ⟨xs0, .emp, .emp, .emp, .emp, .emp, rfl, bx0, by omega⟩ ?_ ?_
  · rintro i d es1 hi ⟨xs, z2, z3, z4, z5, z6, rfl, bx, lx⟩
    rw [List.getElem?_map] at hi
    obtain ⟨j, hj, rfl⟩ := Option.map_eq_some_iff.mp hi
    have hji : j = i := by
      obtain ⟨h1, h2⟩ := List.getElem?_eq_some_iff.mp hj
      simpa using h2.symm
    subst hji
    have hjm : (j : Int) < min 22 (ns.length : Int) - 16 := by
      have := (List.getElem?_eq_some_iff.mp hj).1
      rw [List.length_range] at this
      omega
    have hjn : 16 + j < ns.length := by omega
    refine ⟨_, g_name 2 gd.nd (by decide), ?_⟩
    refine r_set (d := .int (iabs (lawCell ns (16 + j)))) 3 gd (v_abs T.abs (v_ixScr (j := 16 + j) (v_var 0 rfl) (Ev.n (16 + j) (v_var 2 rfl)) (by
      show ns[16 + j]? = some (lawCell ns (16 + j))
      unfold lawCell
      rw [List.getD_eq_getElem?_getD, List.getElem?_eq_getElem hjn] <;> rfl))) ?_
    have hC := iabs_nn (lawCell ns (16 + j))
    generalize iabs (lawCell ns (16 + j)) = C at hC ⊢
    refine r_ifL (b := decide (xs.length = 0)) (Tv.to (t_eq (v_lenL T.len (l_own 1 rfl)) v_int) (by rw [List.length_map]; exact decide_eq_decide.mpr (by omega))) (fun hb => ?_) (fun hb => ?_)
    · exact r_frz 1 rfl (r_ret (v_var 1 rfl) fun v G2 H2 g t => k xs v G2 H2 bx (by omega) g t)
    · have hx0 := of_decide_eq_false hb
      have hmod : 0 ≤ C / 5 % (xs.length : Int) := Int.emod_nonneg _ (by omega)
      have hmod2 : C / 5 % (xs.length : Int) < (xs.length : Int) := Int.emod_lt_of_pos _ (by omega)
      obtain ⟨at_, hat⟩ : ∃ m : Nat, C / 5 % (xs.length : Int) = m := ⟨(C / 5 % (xs.length : Int)).toNat, by omega⟩
      obtain ⟨le_, hle⟩ : ∃ m : Nat, C / 5000 % 60 = m := ⟨(C / 5000 % 60).toNat, by omega⟩
      have hat2 : at_ < xs.length := by omega
      have hle2 : le_ < 60 := by omega
      refine r_set (d := .int (at_ : Int)) 4 gd (Ev.to (v_mod (n := (xs.length : Int)) (by omega) (v_intI T.int (v_div ⟨by decide, by decide⟩ (v_var 3 rfl) v_int)) (Ev.to (d2 := .int (xs.length : Int)) (v_lenL T.len (l_own 1 rfl)) (by rw [List.length_map]))) (by rw [hat])) ?_
      refine r_set (d := .int ((at_ + le_ : Nat) : Int)) 5 gd (Ev.to (v_add (v_var 4 rfl) (v_mod (by decide) (v_intI T.int (v_div ⟨by decide, by decide⟩ (v_var 3 rfl) v_int)) v_int)) (by rw [hle] <;> rfl)) ?_
      refine r_set (d := .int (C % 5)) 6 gd (v_mod (by decide) (v_intI T.int (v_var 3 rfl)) v_int) ?_
      generalize hW : C % 5 = W
      -- a piece taken out
      refine r_if (fun es => ∃ ys : List Int, es = [.pur (scr ns), .own (ys.map PyData.int), .pur (.int (16 + (j : Int))), .pur (.int C), .pur (.int at_), .pur (.int ((at_ + le_ : Nat) : Int)), .pur (.int W)] ∧ bytes ys ∧ ys.length ≤ xs.length + 60 ∧ (0 < W → ys = xs)) (t_eq (v_var 6 rfl) v_int) (fun hb => ?_) (fun hb => ?_) fun es' ⟨ys, e, by_, ly, hy⟩ => ?_
      · have hb' := of_decide_eq_true hb
        refine r_own 1 gd (Nv.to (ys := (xs.take at_ ++ xs.drop (at_ + le_)).map PyData.int) (n_cat (n_slTo at_ (l_own 1 rfl) (v_var 4 rfl) rfl).lv (n_slFrom (at_ + le_) (l_own 1 rfl) (v_var 5 rfl) rfl).lv (by simp; omega)) (by rw [List.map_append, List.map_take, List.map_drop])) ?_
        exact r_nil (Wk.refl _) ⟨_, rfl, bytes_app (bytes_take bx _) (bytes_drop bx _), by simp; omega, fun h => by omega⟩
      · exact r_nil (Wk.refl _) ⟨xs, rfl, bx, by omega, fun _ => rfl⟩
      · subst e
        -- a piece put behind
        refine r_if (fun es => ∃ ys : List Int, es = [.pur (scr ns), .own (ys.map PyData.int), .pur (.int (16 + (j : Int))), .pur (.int C), .pur (.int at_), .pur (.int ((at_ + le_ : Nat) : Int)), .pur (.int W)] ∧ bytes ys ∧ ys.length ≤ xs.length + 60 ∧ (1 < W → ys = xs)) (t_eq (v_var 6 rfl) v_int) (fun hb => ?_) (fun hb => ?_) fun es' ⟨us, e, bu, lu, hu⟩ => ?_
        · have hb' := of_decide_eq_true hb
          have hyx := hy (by omega)
          subst hyx
          refine r_own 1 gd (Nv.to (ys := (ys ++ (ys.drop at_).take le_).map PyData.int) (n_cat (l_own 1 rfl) (n_slI at_ le_ (l_own 1 rfl) (v_var 4 rfl) (v_var 5 rfl)).lv (by simp; omega)) (by rw [List.map_append])) ?_
          exact r_nil (Wk.refl _) ⟨_, rfl, bytes_app by_ (bytes_sub by_ _ _), by simp; omega, fun h => by omega⟩
        · exact r_nil (Wk.refl _) ⟨ys, rfl, by_, ly, fun h => hy (by omega)⟩
        · subst e
          -- a piece doubled
          refine r_if (fun es => ∃ ys : List Int, es = [.pur (scr ns), .own (ys.map PyData.int), .pur (.int (16 + (j : Int))), .pur (.int C), .pur (.int at_), .pur (.int ((at_ + le_ : Nat) : Int)), .pur (.int W)] ∧ bytes ys ∧ ys.length ≤ xs.length + 60 ∧ (2 < W → ys = xs)) (t_eq (v_var 6 rfl) v_int) (fun hb => ?_) (fun hb => ?_) fun es' ⟨ws, e, bw, lw, hw⟩ => ?_
          · have hb' := of_decide_eq_true hb
            have hyx := hu (by omega)
            subst hyx
            refine r_own 1 gd (Nv.to (ys := ((us.take at_ ++ (us.drop at_).take le_) ++ us.drop at_).map PyData.int) (n_cat (n_cat (n_slTo at_ (l_own 1 rfl) (v_var 4 rfl) rfl).lv (n_slI at_ le_ (l_own 1 rfl) (v_var 4 rfl) (v_var 5 rfl)).lv (by simp; omega)).lv (n_slFrom at_ (l_own 1 rfl) (v_var 4 rfl) rfl).lv (by simp; omega)) (by simp only [List.map_append, List.map_take, List.map_drop])) ?_
            exact r_nil (Wk.refl _) ⟨_, rfl, bytes_app (bytes_app (bytes_take bu _) (bytes_sub bu _ _)) (bytes_drop bu _), by simp; omega, fun h => by omega⟩
          · exact r_nil (Wk.refl _) ⟨us, rfl, bu, lu, fun h => hu (by omega)⟩
          · subst e
            -- a byte changed
            refine r_if (fun es => ∃ ys : List Int, es = [.pur (scr ns), .own (ys.map PyData.int), .pur (.int (16 + (j : Int))), .pur (.int C), .pur (.int at_), .pur (.int ((at_ + le_ : Nat) : Int)), .pur (.int W)] ∧ bytes ys ∧ ys.length ≤ xs.length + 60) (t_eq (v_var 6 rfl) v_int) (fun hb => ?_) (fun hb => ?_) fun es' ⟨us, e, bu, lu⟩ => ?_
            · have hb' := of_decide_eq_true hb
              have hyx := hw (by omega)
              subst hyx
              have hg : (ws.map PyData.int)[at_]? = some (.int ws[at_]) := by rw [List.getElem?_map, List.getElem?_eq_getElem hat2] <;> rfl
              refine r_setItem (d := .int (Builtin.bitXor ws[at_] (1 + C / 7 % 255))) (j := at_) 1 gd rfl (v_bxor (v_ixL (j := at_) (l_own 1 rfl) (v_var 4 rfl) hg) (v_add v_int (v_mod (by decide) (v_intI T.int (v_div ⟨by decide, by decide⟩ (v_var 3 rfl) v_int)) v_int))) (v_var 4 rfl) (by rw [List.length_map]; exact hat2) ?_
              rw [set_map_int]
              exact r_nil (Wk.refl _) ⟨_, rfl, bytes_set bw (xor_byte (bw _ (List.getElem_mem hat2)) (by omega)) _, by rw [List.length_set]; exact lw⟩
            · exact r_nil (Wk.refl _) ⟨ws, rfl, bw, lw⟩
            · subst e
              exact r_nil (Wk.refl _) ⟨us, _, _, _, _, _, rfl, bu, by omega⟩
  · rintro es1 (⟨xs, z2, z3, z4, z5, z6, rfl, bx, lx⟩ | h)
    · refine r_ret (Nv.ev (Nv.to (ys := (xs.take 1500).map PyData.int) (n_slTo 1500 (l_own 1 rfl) v_int rfl) (by rw [List.map_take]))) fun v G2 H2 g t => k _ v G2 H2 (bytes_take bx _) (by rw [List.length_take]; omega) g t
    · exact h.elim
theorem ok_lstands (T : Gs K mg) (F : Fun K "_law_stands" "_law_stands" sLStands f fd) (cC : CalD P w K mg base 1 "_law_codes" ["_law_text"] preCodes) (cL : CalD P w K mg base 1 "_law_low" ["_law_number_here", "_law_size"] preToLow2) (cN : CalD P w K mg base 1 "_law_number" ["_law_row_here"] preLow) :
    FnOk P w K mg base CX0 2 f fd ["_law_data", "_law_entry"] (spD K preLStands) := by
  refine okD F scLStands (fun ds d ⟨_, _, e, _⟩ => by rw [e]; rfl) (by decide) fun cdv A outer s H E hr gd ds d hp Ge He Q k => ?_
  obtain ⟨xs, e, rfl, hb, hl, hpl, ⟨a, ha1, ha2, ha3, ha4, ha5, ha6⟩, rfl⟩ := hp
  have hlen : ((xs.map PyData.int).length : Int) = (xs.length : Int) := by rw [List.length_map]
  have e0 : (PyData.str (Str.ofString "CRT1")) = .str (tx [67, 82, 84, 49]) := congrArg PyData.str (by decide +kernel)
  refine r_unp (ds := [.str (tx e.name), .int e.meth, .int e.size, .int e.total, .tuple (e.part.map PyData.int)]) gd (v_var 1 rfl) (vs := [2, 3, 4, 5, 6]) (gs_cons (g_name 2 gd.nd (by decide)) (gs_cons (g_name 3 gd.nd (by decide)) (gs_cons (g_name 4 gd.nd (by decide)) (gs_cons (g_name 5 gd.nd (by decide)) (gs_cons (g_name 6 gd.nd (by decide)) gs_nil))))) ?_
  refine r_set (d := il (crt ++ [e.meth])) 7 gd (Nv.ev (Nv.to (n_cat (v_call cC (hr.mono (by decide)) (a_cons (v_str.to e0) a_nil) ⟨_, rfl, by decide, rfl⟩).lv (n_lst (a_cons (v_var 3 rfl) a_nil)).lv (by simp [castI])) (by simp [castI, crt]))) ?_
  refine r_set (d := il (low2 e.size 4 ++ low2 e.total 4)) 8 gd (Nv.ev (Nv.to (n_cat (v_call cL (hr.mono (by decide)) (a_cons (v_var 4 rfl) (a_cons v_int a_nil)) ⟨_, 4, rfl, by decide, rfl⟩).lv (v_call cL (hr.mono (by decide)) (a_cons (v_var 5 rfl) (a_cons v_int a_nil)) ⟨_, 4, rfl, by decide, rfl⟩).lv (by simp [low2_len])) (by rw [List.map_append]))) ?_
  refine r_for gd (i_range (n := (xs.length : Int) - 19) T.range (Ev.to (v_sub (v_lenL T.len (v_var 0 rfl).lv) v_int) (by rw [hlen])) (by omega) (by omega))
    (fun i es => ∃ (z9 z10 : Sl), es = [.pur (il xs), .pur e.py, .pur (.str (tx e.name)), .pur (.int e.meth), .pur (.int e.size), .pur (.int e.total), .pur (.tuple (e.part.map PyData.int)), .pur (il (crt ++ [e.meth])), .pur (il (low2 e.size 4 ++ low2 e.total 4)), z9, z10] ∧ i ≤ a) (fun _ => False) [9] ⟨.emp, .emp, rfl, Nat.zero_le _⟩ ?_ ?_
  · rintro i d es1 hi ⟨z9, z10, rfl, hia⟩
    rw [List.getElem?_map] at hi
    obtain ⟨j, hj, rfl⟩ := Option.map_eq_some_iff.mp hi
    have hji : j = i := by
      obtain ⟨h1, h2⟩ := List.getElem?_eq_some_iff.mp hj
      simpa using h2.symm
    subst hji
    have hjm : j + 19 < xs.length := by
      have := (List.getElem?_eq_some_iff.mp hj).1
      rw [List.length_range] at this
      omega
    have hjl : j < xs.length := by omega
    have h6 := lowN_cast (bytes_sub hb (j + 6) 2)
    refine ⟨_, g_name 9 gd.nd (by decide), ?_⟩
    refine r_if (b := decide (xs[j] = 67) && (decide ((xs.drop j).take 5 = crt ++ [e.meth]) && decide ((xs.drop (j + 8)).take 8 = low2 e.size 4 ++ low2 e.total 4)))
      (fun es => ∃ (z10 : Sl), es = [.pur (il xs), .pur e.py, .pur (.str (tx e.name)), .pur (.int e.meth), .pur (.int e.size), .pur (.int e.total), .pur (.tuple (e.part.map PyData.int)), .pur (il (crt ++ [e.meth])), .pur (il (low2 e.size 4 ++ low2 e.total 4)), .pur (.int j), z10] ∧ j + 1 ≤ a)
      (w_and (t_eq (v_ixL (j := j) (d := .int xs[j]) (v_var 0 rfl).lv (v_var 9 rfl) (by rw [List.getElem?_map, List.getElem?_eq_getElem hjl] <;> rfl)) v_int) fun _ => w_and (t_eqL gd (n_slI j 5 (v_var 0 rfl).lv (v_var 9 rfl) (v_add (v_var 9 rfl) v_int)).lv (v_var 7 rfl).lv) fun _ => w_and1 (t_eqL gd (n_slI (j + 8) 8 (v_var 0 rfl).lv (v_add (v_var 9 rfl) v_int) (v_add (v_var 9 rfl) v_int)).lv (v_var 8 rfl).lv)).tv
      (fun _ => ?_) (fun hb1 => ?_) fun es' ⟨z10, e1, hja⟩ => ?_
    · refine r_set (d := .int (firstOf xs j : Int)) 10 gd (Ev.to (v_add (v_add (v_var 9 rfl) v_int) (v_call cN (hr.mono (by decide)) (a_cons (n_slI (j + 6) 2 (v_var 0 rfl).lv (v_add (v_var 9 rfl) v_int) (v_add (v_var 9 rfl) v_int)).ev a_nil) ⟨_, rfl, rfl⟩)) (by congr 1; unfold firstOf; omega)) ?_
      refine r_ifL (b := decide (firstOf xs j ≤ xs.length) && decide ((xs.drop (firstOf xs j)).take e.part.length = e.part)) (w_and (Tv.to (t_le (v_var 10 rfl) (v_lenL T.len (v_var 0 rfl).lv)) (by rw [hlen]; exact decide_eq_decide.mpr (by omega))) fun _ => w_and1 (t_eqL gd (n_slI (firstOf xs j) e.part.length (v_var 0 rfl).lv (v_var 10 rfl) (v_add (v_var 10 rfl) (v_lenT T.len (v_var 6 rfl))) rfl (by rw [List.length_map])).lv (n_listT T.list (v_var 6 rfl)).lv)).tv (fun _ => r_ret v_bl k) (fun hb2 => ?_)
      refine r_nil (Wk.refl _) ⟨_, rfl, ?_⟩
      rcases Nat.lt_or_ge j a with q | q
      · exact q
      · exfalso
        have hja : j = a := by omega
        subst hja
        rw [decide_eq_true ha5, decide_eq_true ha6] at hb2
        cases hb2
    · refine r_nil (Wk.refl _) ⟨_, rfl, ?_⟩
      rcases Nat.lt_or_ge j a with q | q
      · exact q
      · exfalso
        have hja : j = a := by omega
        subst hja
        have h67 : xs[j] = 67 := by
          rw [List.getElem?_eq_getElem hjl] at ha2
          exact Option.some.inj ha2
        rw [decide_eq_true h67, decide_eq_true ha3, decide_eq_true ha4] at hb1
        cases hb1
    · subst e1
      exact r_nil (Wk.refl _) ⟨_, _, rfl, hja⟩
  · rintro es1 (⟨z9, z10, rfl, hia⟩ | h)
    · exfalso
      rw [List.length_map, List.length_range] at hia
      omega
    · exact h.elim
end
end K9
namespace K9
open PySem PySem.Spec PyProof.Rows L2 Evl
/-! ### plain names stay as they are -/
def noCut (b : Int) : Prop := b ≠ 47 ∧ b ≠ 92
structure Fine (c : Nat) : Prop where
  ok : okByte (c : Int) = true
  cut : noCut (c : Int)
  same : signOf (c : Int) = c
  low : 32 ≤ c ∧ c ≤ 126
def fineB (c : Nat) : Bool := okByte (c : Int) && (!decide (c = 47) && (!decide (c = 92) && (decide (signOf (c : Int) = c) && (decide (32 ≤ c) && decide (c ≤ 126)))))
theorem fine_of {c : Nat} (h : fineB c = true) : Fine c := by
  unfold fineB at h
  simp only [Bool.and_eq_true, Bool.not_eq_true', decide_eq_true_eq, decide_eq_false_iff_not] at h
  obtain ⟨h1, h2, h3, h4, h5, h6⟩ := h
  exact ⟨h1, ⟨by omega, by omega⟩, h4, h5, h6⟩
theorem fine_all : ∀ i : Fin 95, okByte ((i.val : Int) + 32) = true → (i.val : Int) + 32 ≠ 47 → (i.val : Int) + 32 ≠ 92 → fineB (signOf ((i.val : Int) + 32)) = true := by decide +kernel
theorem fine_sign {b : Int} (h : okByte b = true) (h2 : noCut b) : Fine (signOf b) := by
  have hb : 32 ≤ b ∧ b ≤ 126 := by
    unfold okByte at h
    simp only [Bool.and_eq_true, decide_eq_true_eq] at h
    exact h.1
  have e : b = (((⟨(b - 32).toNat, by omega⟩ : Fin 95)).val : Int) + 32 := by
    show b = ((b - 32).toNat : Int) + 32
    omega
  have := fine_all ⟨(b - 32).toNat, by omega⟩
  rw [← e] at this
  exact fine_of (this h h2.1 h2.2)
abbrev AllF (p : List Nat) : Prop := ∀ c ∈ p, Fine c
theorem plainCodes_fine {xs : List Int} (h : ∀ b ∈ xs, noCut b) : AllF (plainCodes xs) := fun c hc => by
  unfold plainCodes at hc
  obtain ⟨b, hb, rfl⟩ := List.mem_map.mp hc
  rw [List.mem_filter] at hb
  exact fine_sign hb.2 (h b hb.1)
theorem plainCodes_id : ∀ {p : List Nat}, AllF p → plainCodes (castI p) = p
  | [], _ => rfl
  | c :: p, h => by
    have hc := h c (List.mem_cons_self ..)
    have ih := plainCodes_id (p := p) fun d hd => h d (List.mem_cons_of_mem _ hd)
    unfold plainCodes castI at ih ⊢
    rw [List.map_cons, List.filter_cons, if_pos hc.ok, List.map_cons, ih, hc.same]
theorem cuts_noCut : ∀ (rest part : List Int), (∀ b ∈ part, noCut b) → ∀ q ∈ cuts part rest, ∀ b ∈ q, noCut b
  | [], part, h, q, hq, b, hb => by
    rw [cuts_nil] at hq
    cases hq
  | a :: r, part, h, q, hq, b, hb => by
    rw [cuts_cons] at hq
    split at hq
    · rcases List.mem_cons.mp hq with z | z
      · subst z
        exact h b hb
      · exact cuts_noCut r [] (fun _ hx => nomatch hx) q z b hb
    · rename_i ha
      refine cuts_noCut r _ (fun c hc => ?_) q hq b hb
      rcases List.mem_append.mp hc with z | z
      · exact h c z
      · rw [List.mem_singleton] at z
        rw [z]
        exact ⟨fun e => ha (.inl e), fun e => ha (.inr e)⟩
structure GoodP (p : List Nat) : Prop where
  fine : AllF p
  good : goodPart p = true
theorem nameParts_good {xs : List Int} : ∀ p ∈ nameParts xs, GoodP p := fun p hp => by
  unfold nameParts at hp
  rw [List.mem_filter] at hp
  obtain ⟨h1, h2⟩ := hp
  obtain ⟨q, hq, rfl⟩ := List.mem_map.mp h1
  exact ⟨plainCodes_fine (cuts_noCut _ [] (fun _ hx => nomatch hx) q hq), h2⟩
theorem good_take {p : List Nat} (h : GoodP p) : GoodP (p.take 100) := by
  refine ⟨fun c hc => h.fine c (List.mem_of_mem_take hc), ?_⟩
  rcases Nat.lt_or_ge p.length 100 with q | q
  · rw [List.take_of_length_le (by omega)]
    exact h.good
  · have hl : (p.take 100).length = 100 := by rw [List.length_take]; omega
    generalize p.take 100 = r at hl
    unfold goodPart
    have h1 : r ≠ [] := fun e => by rw [e] at hl; cases hl
    have h2 : r ≠ [46] := fun e => by rw [e] at hl; cases hl
    have h3 : r ≠ [46, 46] := fun e => by rw [e] at hl; cases hl
    rw [decide_eq_false h1, decide_eq_false h2, decide_eq_false h3]
    rfl
/-- the parts that are taken -/
def joinSel : List Nat → List (List Nat) → List (List Nat)
  | _, [] => []
  | nm, p :: r => if 100 < nm.length + 1 + p.length then [] else p :: joinSel (nm ++ 47 :: p) r
theorem joinSel_nil (nm : List Nat) : joinSel nm [] = [] := by unfold joinSel; rfl
theorem joinSel_cons (nm p : List Nat) (r : List (List Nat)) : joinSel nm (p :: r) = if 100 < nm.length + 1 + p.length then [] else p :: joinSel (nm ++ 47 :: p) r := by rw [joinSel]
theorem joinSel_mem : ∀ (ps : List (List Nat)) (nm q : List Nat), q ∈ joinSel nm ps → q ∈ ps
  | [], nm, q, h => by rw [joinSel_nil] at h; cases h
  | p :: r, nm, q, h => by
    rw [joinSel_cons] at h
    split at h
    · cases h
    · rcases List.mem_cons.mp h with z | z
      · rw [z]; exact List.mem_cons_self ..
      · exact List.mem_cons_of_mem _ (joinSel_mem r _ q z)
abbrev tailOf (ps : List (List Nat)) : List Nat := ps.flatMap fun p => 47 :: p
theorem joinGo_sel : ∀ (ps : List (List Nat)) (nm : List Nat), joinGo nm ps = nm ++ tailOf (joinSel nm ps)
  | [], nm => by
    rw [joinGo_nil, joinSel_nil]
    simp
  | p :: r, nm => by
    rw [joinGo_cons, joinSel_cons]
    split
    · simp
    · rw [joinGo_sel r]
      unfold tailOf
      rw [List.flatMap_cons, List.append_assoc]
theorem joinSel_sel : ∀ (ps : List (List Nat)) (nm : List Nat), joinSel nm (joinSel nm ps) = joinSel nm ps
  | [], nm => by rw [joinSel_nil, joinSel_nil]
  | p :: r, nm => by
    rw [joinSel_cons]
    split
    · rw [joinSel_nil]
    · rename_i h
      rw [joinSel_cons, if_neg h, joinSel_sel r]
theorem joinGo_len : ∀ (ps : List (List Nat)) (nm : List Nat), nm.length ≤ 100 → (joinGo nm ps).length ≤ 100
  | [], nm, h => by rw [joinGo_nil]; exact h
  | p :: r, nm, h => by
    rw [joinGo_cons]
    split
    · exact h
    · refine joinGo_len r _ ?_
      rw [List.length_append, List.length_cons]
      omega
theorem cuts_fine : ∀ (p : List Nat) (acc rest : List Int), AllF p → cuts acc (castI p ++ rest) = cuts (acc ++ castI p) rest
  | [], acc, rest, _ => by simp [castI]
  | c :: p, acc, rest, h => by
    have hc := h c (List.mem_cons_self ..)
    have e : castI (c :: p) = (c : Int) :: castI p := rfl
    rw [e, List.cons_append, cuts_cons, if_neg (fun z => z.elim hc.cut.1 hc.cut.2), cuts_fine p _ rest fun d hd => h d (List.mem_cons_of_mem _ hd), List.append_assoc]
    rfl
theorem castI_app (a b : List Nat) : castI (a ++ b) = castI a ++ castI b := by unfold castI; rw [List.map_append]
theorem cuts_tail : ∀ (ps : List (List Nat)) (acc : List Int), (∀ p ∈ ps, AllF p) → cuts acc (castI (tailOf ps) ++ [47]) = acc :: ps.map castI
  | [], acc, _ => by
    show cuts acc [47] = _
    rw [cuts_cons, if_pos (.inl rfl), cuts_nil]
    rfl
  | p :: r, acc, h => by
    have e : castI (tailOf (p :: r)) = (47 : Int) :: (castI p ++ castI (tailOf r)) := by
      show castI (tailOf (p :: r)) = _
      unfold tailOf
      rw [List.flatMap_cons, castI_app]
      rfl
    rw [e, List.cons_append, cuts_cons, if_pos (.inl rfl), List.append_assoc, cuts_fine p _ _ (h p (List.mem_cons_self ..)), cuts_tail r _ fun q hq => h q (List.mem_cons_of_mem _ hq)]
    rfl
theorem parts_id : ∀ {ps : List (List Nat)}, (∀ p ∈ ps, GoodP p) → ((ps.map castI).map plainCodes).filter goodPart = ps
  | [], _ => rfl
  | p :: r, h => by
    have hp := h p (List.mem_cons_self ..)
    rw [List.map_cons, List.map_cons, plainCodes_id hp.fine, List.filter_cons, if_pos hp.good, parts_id fun q hq => h q (List.mem_cons_of_mem _ hq)]
theorem nameParts_join {p : List Nat} {ps : List (List Nat)} (h : GoodP p) (h2 : ∀ q ∈ ps, GoodP q) : nameParts (castI (p ++ tailOf ps)) = p :: ps := by
  unfold nameParts
  rw [castI_app, List.append_assoc, cuts_fine p [] _ h.fine, cuts_tail ps _ fun q hq => (h2 q hq).fine]
  show (((p :: ps).map castI).map plainCodes).filter goodPart = _
  refine parts_id fun q hq => ?_
  rcases List.mem_cons.mp hq with z | z
  · rw [z]; exact h
  · exact h2 q z
theorem plain_part' : plainName [112, 97, 114, 116] = [112, 97, 114, 116] := by decide +kernel
theorem plainName_cases (xs : List Int) : plainName xs = [112, 97, 114, 116] ∨ ∃ p ps, nameParts xs = p :: ps ∧ GoodP (p.take 100) ∧ (∀ q ∈ joinSel (p.take 100) ps, GoodP q) ∧ plainName xs = p.take 100 ++ tailOf (joinSel (p.take 100) ps) := by
  unfold plainName
  cases e : nameParts xs with
  | nil => exact .inl rfl
  | cons p ps =>
    have hg := nameParts_good (xs := xs)
    rw [e] at hg
    exact .inr ⟨p, ps, rfl, good_take (hg p (List.mem_cons_self ..)), fun q hq => hg q (List.mem_cons_of_mem _ (joinSel_mem _ _ _ hq)), joinGo_sel _ _⟩
theorem plainName_id (xs : List Int) : plainName (castI (plainName xs)) = plainName xs := by
  rcases plainName_cases xs with h | ⟨p, ps, e, h1, h2, h3⟩
  · rw [h]
    exact plain_part'
  · rw [h3]
    have := nameParts_join h1 h2
    unfold plainName
    rw [this]
    show joinGo ((p.take 100).take 100) _ = _
    rw [List.take_take, Nat.min_self, joinGo_sel, joinSel_sel]
theorem plainName_len (xs : List Int) : (plainName xs).length ≤ 100 := by
  unfold plainName
  split
  · decide
  · refine joinGo_len _ _ ?_
    rw [List.length_take]
    omega
theorem tail_low {ps : List (List Nat)} (h : ∀ p ∈ ps, GoodP p) : ∀ c ∈ tailOf ps, 32 ≤ c ∧ c ≤ 126 := fun c hc => by
  obtain ⟨p, hp, h2⟩ := List.mem_flatMap.mp hc
  rcases List.mem_cons.mp h2 with z | z
  · rw [z]; decide
  · exact ((h p hp).fine c z).low
theorem plainName_low (xs : List Int) : ∀ c ∈ plainName xs, 32 ≤ c ∧ c ≤ 126 := fun c hc => by
  rcases plainName_cases xs with h | ⟨p, ps, e, h1, h2, h3⟩
  · rw [h] at hc
    revert c
    decide
  · rw [h3] at hc
    rcases List.mem_append.mp hc with z | z
    · exact (h1.fine c z).low
    · exact tail_low h2 c z
/-! lengths -/
def mass {α : Type} (f : α → Nat) (l : List α) : Nat := (l.map f).sum
theorem mass_nil {α : Type} (f : α → Nat) : mass f [] = 0 := rfl
theorem mass_cons {α : Type} (f : α → Nat) (x : α) (l : List α) : mass f (x :: l) = f x + mass f l := by unfold mass; rw [List.map_cons, List.sum_cons]
theorem mass_app {α : Type} (f : α → Nat) (l r : List α) : mass f (l ++ r) = mass f l + mass f r := by unfold mass; rw [List.map_append, List.sum_append]
theorem mass_map {α β : Type} (f : β → Nat) (g : α → β) (l : List α) : mass f (l.map g) = mass (fun x => f (g x)) l := by unfold mass; rw [List.map_map]; rfl
theorem mass_sub {α : Type} (f : α → Nat) {l r : List α} (h : l.Sublist r) : mass f l ≤ mass f r := by
  induction h with
  | slnil => exact Nat.le_refl _
  | cons a _ ih => rw [mass_cons]; omega
  | cons_cons a _ ih => rw [mass_cons, mass_cons]; omega
theorem mass_le {α : Type} {f g : α → Nat} : ∀ {l : List α}, (∀ x ∈ l, f x ≤ g x) → mass f l ≤ mass g l
  | [], _ => Nat.le_refl _
  | x :: l, h => by
    have h1 := h x (List.mem_cons_self ..)
    have h2 := mass_le (f := f) (g := g) (l := l) fun y hy => h y (List.mem_cons_of_mem _ hy)
    rw [mass_cons, mass_cons]
    omega
theorem cuts_mass : ∀ (rest part : List Int), mass (fun q => q.length + 1) (cuts part rest) ≤ part.length + rest.length
  | [], part => by rw [cuts_nil, mass_nil]; omega
  | b :: r, part => by
    rw [cuts_cons]
    split
    · have := cuts_mass r []
      rw [mass_cons, List.length_cons]
      simp at this
      omega
    · have := cuts_mass r (part ++ [b])
      rw [List.length_append] at this
      simp at this ⊢
      omega
theorem nameParts_mass (xs : List Int) : mass (fun p => p.length + 1) (nameParts xs) ≤ xs.length + 1 := by
  unfold nameParts
  refine Nat.le_trans (mass_sub _ List.filter_sublist) ?_
  rw [mass_map]
  refine Nat.le_trans (mass_le fun q _ => Nat.add_le_add_right (plainCodes_len q) 1) ?_
  have := cuts_mass (xs ++ [47]) []
  rw [List.length_append] at this
  simp at this ⊢
  omega
theorem joinGo_mass : ∀ (ps : List (List Nat)) (nm : List Nat), (joinGo nm ps).length ≤ nm.length + mass (fun p => p.length + 1) ps
  | [], nm => by rw [joinGo_nil, mass_nil]; omega
  | p :: r, nm => by
    rw [joinGo_cons, mass_cons]
    split
    · omega
    · have := joinGo_mass r (nm ++ 47 :: p)
      rw [List.length_append, List.length_cons] at this
      omega
theorem plainName_raw (xs : List Int) : (plainName xs).length ≤ xs.length + 4 := by
  have h := nameParts_mass xs
  unfold plainName
  cases e : nameParts xs with
  | nil => simp
  | cons p ps =>
    rw [e, mass_cons] at h
    have h2 := joinGo_mass ps (p.take 100)
    rw [List.length_take] at h2
    show (joinGo (p.take 100) ps).length ≤ _
    omega
end K9
namespace K9
open PySem PySem.Spec PyProof.Rows L2 Evl
/-! ### low bytes there and back -/
theorem low2_zero (n : Int) : low2 n 0 = [] := rfl
theorem low2_succ {n : Int} (h : 0 ≤ n) (k : Nat) : low2 n (k + 1) = (n % 256) :: low2 (n / 256) k := by
  unfold low2
  rw [List.range_succ_eq_map, List.map_cons, List.map_map]
  congr 1
  · rw [Int.pow_zero, Int.ediv_one, and255 h]
  · apply List.map_congr_left
    intro j _
    show Builtin.bitAnd (n / 256 ^ (j + 1)) 255 = Builtin.bitAnd (n / 256 / 256 ^ j) 255
    rw [Int.pow_succ, Int.mul_comm, Int.ediv_ediv_of_nonneg (by decide)]
theorem lowNum_low2 : ∀ (k : Nat) {n : Int}, 0 ≤ n → n < 256 ^ k → lowNum (low2 n k) = n
  | 0, n, h, h2 => by
    rw [low2_zero]
    have : n < 1 := h2
    show (0 : Int) = n
    omega
  | k + 1, n, h, h2 => by
    have hp : n < 256 ^ k * 256 := by rw [← Int.pow_succ]; exact h2
    rw [low2_succ h, lowNum_cons, lowNum_low2 k (by omega) (by omega)]
    omega
theorem low2_lowNum : ∀ {bs : List Int}, bytes bs → low2 (lowNum bs) bs.length = bs
  | [], _ => rfl
  | b :: bs, h => by
    have hb := h b (List.mem_cons_self ..)
    have ht : bytes bs := fun c hc => h c (List.mem_cons_of_mem _ hc)
    have hn := (lowNum_bounds ht).1
    have hz : 0 ≤ lowNum (b :: bs) := by rw [lowNum_cons]; omega
    rw [List.length_cons, low2_succ hz]
    have e1 : lowNum (b :: bs) % 256 = b := by rw [lowNum_cons]; omega
    have e2 : lowNum (b :: bs) / 256 = lowNum bs := by rw [lowNum_cons]; omega
    rw [e1, e2, low2_lowNum ht]
theorem lowN_low2 (k : Nat) {n : Nat} (h : n < 256 ^ k) : lowN (low2 (n : Int) k) = n := by
  unfold lowN
  rw [lowNum_low2 k (by omega) (by exact_mod_cast h)]
  rfl
/-! ### what is found -/
structure Src (xs : List Int) (e : En) : Prop where
  ex : ∃ a h nm, headAt xs a = some h ∧ e = { h.en with name := nm } ∧ nm.length ≤ xs.length
theorem headAt_some {xs : List Int} {a : Nat} {h : Hd} (e : headAt xs a = some h) :
    a + 20 ≤ xs.length ∧ st4 xs crt a = true ∧ firstOf xs a ≤ xs.length ∧ h.en.meth = xs.getD (a + 4) 0 ∧ h.en.size = lowNum ((xs.drop (a + 8)).take 4) ∧ h.en.total = lowNum ((xs.drop (a + 12)).take 4) ∧
    h.en.part = (xs.drop (firstOf xs a)).take (lowN ((xs.drop (a + 16)).take 4)) ∧ h.en.name = (xs.drop (a + 20)).take (lowN ((xs.drop (a + 6)).take 2)) ∧ h.stop = min (stopOf xs a) xs.length := by
  unfold headAt at e
  split at e
  · cases e
  split at e
  · cases e
  rename_i h1 h2
  cases e
  have h3 : ¬ xs.length < a + 20 := fun z => h1 (.inr z)
  have h4 : st4 xs crt a = true := by
    cases q : st4 xs crt a with
    | true => rfl
    | false => exact absurd (.inl q) h1
  exact ⟨by omega, h4, by omega, rfl, rfl, rfl, rfl, rfl, rfl⟩
theorem take_take_len (l : List Int) (n : Nat) : l.take (l.take n).length = l.take n := by
  rw [List.length_take]
  rcases Nat.lt_or_ge l.length n with q | q
  · rw [Nat.min_eq_right (by omega), List.take_length, List.take_of_length_le (by omega)]
  · rw [Nat.min_eq_left q]
theorem drop_take_split (xs : List Int) (a n m : Nat) : (xs.drop a).take (n + m) = (xs.drop a).take n ++ (xs.drop (a + n)).take m := by
  rw [List.take_add, List.drop_drop]
theorem take_one {xs : List Int} {a : Nat} (h : a < xs.length) : (xs.drop a).take 1 = [xs[a]] := by
  rw [List.drop_eq_getElem_cons h]
  rfl
theorem src_stands {xs : List Int} (hb : bytes xs) {e : En} (s : Src xs e) : ∃ a, standsE xs (plainE e) a := by
  obtain ⟨a, h, nm, eh, rfl, _⟩ := s.ex
  obtain ⟨h1, h2, h3, h4, h5, h6, h7, h8, h9⟩ := headAt_some eh
  have hs : (xs.drop a).take 4 = crt := by
    unfold st4 at h2
    exact of_decide_eq_true h2
  refine ⟨a, h1, ?_, ?_, ?_, h3, ?_⟩
  · have := congrArg (fun l : List Int => l[0]?) hs
    simp only [List.getElem?_take, List.getElem?_drop] at this
    simpa [crt] using this
  · show (xs.drop a).take (4 + 1) = crt ++ [h.en.meth]
    rw [drop_take_split, hs, h4, take_one (by omega), List.getD_eq_getElem?_getD, List.getElem?_eq_getElem (by omega)]
    rfl
  · show (xs.drop (a + 8)).take (4 + 4) = low2 h.en.size 4 ++ low2 h.en.total 4
    have l1 : ((xs.drop (a + 8)).take 4).length = 4 := by rw [List.length_take, List.length_drop]; omega
    have l2 : ((xs.drop (a + 12)).take 4).length = 4 := by rw [List.length_take, List.length_drop]; omega
    have e1 := low2_lowNum (bytes_sub hb (a + 8) 4)
    have e2 := low2_lowNum (bytes_sub hb (a + 12) 4)
    rw [l1] at e1
    rw [l2] at e2
    rw [drop_take_split, h5, h6, e1, e2]
  · show (xs.drop (firstOf xs a)).take h.en.part.length = h.en.part
    rw [h7, take_take_len]
structure Num (e : En) : Prop where
  meth : 0 ≤ e.meth ∧ e.meth ≤ 255
  size : 0 ≤ e.size ∧ e.size < 4294967296
  total : 0 ≤ e.total ∧ e.total < 4294967296
  part : bytes e.part
theorem pow_four {bs : List Int} (h : bs.length ≤ 4) : (256 : Int) ^ bs.length ≤ 4294967296 := by
  have h' : bs.length = 0 ∨ bs.length = 1 ∨ bs.length = 2 ∨ bs.length = 3 ∨ bs.length = 4 := by omega
  rcases h' with e | e | e | e | e <;> rw [e] <;> decide
theorem src_num {xs : List Int} (hb : bytes xs) {e : En} (s : Src xs e) : Num e := by
  obtain ⟨a, h, nm, eh, rfl, _⟩ := s.ex
  obtain ⟨h1, h2, h3, h4, h5, h6, h7, h8, h9⟩ := headAt_some eh
  have q1 := lowNum_bounds (bytes_sub hb (a + 8) 4)
  have q2 := lowNum_bounds (bytes_sub hb (a + 12) 4)
  have p1 := pow_four (bs := (xs.drop (a + 8)).take 4) (by rw [List.length_take]; omega)
  have p2 := pow_four (bs := (xs.drop (a + 12)).take 4) (by rw [List.length_take]; omega)
  refine ⟨?_, ?_, ?_, ?_⟩
  · show 0 ≤ h.en.meth ∧ h.en.meth ≤ 255
    rw [h4, List.getD_eq_getElem?_getD, List.getElem?_eq_getElem (by omega)]
    exact hb _ (List.getElem_mem _)
  · show 0 ≤ h.en.size ∧ h.en.size < 4294967296
    rw [h5]
    omega
  · show 0 ≤ h.en.total ∧ h.en.total < 4294967296
    rw [h6]
    omega
  · show bytes h.en.part
    rw [h7]
    exact bytes_sub hb _ _
theorem head_mass {xs : List Int} {a : Nat} {h : Hd} (e : headAt xs a = some h) : a + 20 + h.en.name.length + h.en.part.length ≤ h.stop ∧ h.stop ≤ xs.length := by
  obtain ⟨h1, h2, h3, h4, h5, h6, h7, h8, h9⟩ := headAt_some e
  rw [h7, h8, h9, List.length_take, List.length_take, List.length_drop, List.length_drop]
  unfold stopOf
  unfold firstOf at h3 ⊢
  omega
/-! the directory -/
theorem recFd_src {xs : List Int} {pl a : Nat} {f : Fd} (h : f ∈ recFd xs pl a) : Src xs f.en ∧ f.start + 20 + f.en.part.length ≤ f.stop ∧ f.stop ≤ xs.length ∧ f.en.name.length ≤ lowN ((xs.drop (a + 8)).take 2) := by
  unfold recFd at h
  cases e : headAt xs (pl - distOf xs a) with
  | none => rw [e] at h; cases h
  | some hd =>
    rw [e] at h
    change f ∈ (if hd.whole = true then _ else _) at h
    split at h
    · rw [List.mem_singleton] at h
      subst h
      have := head_mass e
      refine ⟨⟨_, hd, _, e, rfl, ?_⟩, ?_, this.2, ?_⟩
      · show ((xs.drop (a + 10)).take _).length ≤ _
        rw [List.length_take, List.length_drop]
        omega
      · show pl - distOf xs a + 20 + hd.en.part.length ≤ hd.stop
        omega
      · show ((xs.drop (a + 10)).take _).length ≤ _
        rw [List.length_take]
        omega
    · cases h
theorem recFd_one (xs : List Int) (pl a : Nat) : recFd xs pl a = [] ∨ ∃ f, recFd xs pl a = [f] := by
  unfold recFd
  cases headAt xs (pl - distOf xs a) with
  | none => exact .inl rfl
  | some hd =>
    show (if hd.whole = true then _ else _) = [] ∨ ∃ f, (if hd.whole = true then _ else _) = [f]
    split
    · exact .inr ⟨_, rfl⟩
    · exact .inl rfl
theorem recOk_behind {xs : List Int} {pl a : Nat} (h : recOk xs pl a = true) : behindOf xs a ≤ pl := by
  unfold recOk at h
  simp at h
  omega
theorem dirGo_src {xs : List Int} {pl : Nat} : ∀ (n a : Nat) (f : Fd), f ∈ dirGo xs pl n a → Src xs f.en ∧ f.start + 20 + f.en.part.length ≤ f.stop ∧ f.stop ≤ xs.length
  | 0, a, f, h => by rw [dirGo] at h; cases h
  | n + 1, a, f, h => by
    rw [dirGo] at h
    split at h
    · rcases List.mem_append.mp h with z | z
      · obtain ⟨h1, h2, h3, _⟩ := recFd_src z
        exact ⟨h1, h2, h3⟩
      · exact dirGo_src n _ f z
    · cases h
theorem dirGo_mass {xs : List Int} {pl : Nat} : ∀ (n a : Nat), mass (fun f : Fd => 10 + f.en.name.length) (dirGo xs pl n a) ≤ pl - a
  | 0, a => by rw [dirGo, mass_nil]; omega
  | n + 1, a => by
    rw [dirGo]
    split
    · rename_i h
      have hb := recOk_behind h
      have ih := dirGo_mass (xs := xs) (pl := pl) n (behindOf xs a)
      have hr : mass (fun f : Fd => 10 + f.en.name.length) (recFd xs pl a) ≤ 10 + lowN ((xs.drop (a + 8)).take 2) := by
        rcases recFd_one xs pl a with e | ⟨f, e⟩
        · rw [e, mass_nil]; omega
        · have := (recFd_src (f := f) (by rw [e]; exact List.mem_cons_self ..)).2.2.2
          rw [e, mass_cons, mass_nil]
          omega
      rw [mass_app]
      have : behindOf xs a = a + 10 + lowN ((xs.drop (a + 8)).take 2) := rfl
      omega
    · rw [mass_nil]; omega
/-! pieces that do not clash -/
def Apart (fs : List Fd) : Prop := fs.Pairwise fun o x => clash x o = false
theorem over_apart : ∀ (fs kept : List Fd), Apart kept → Apart (overGo kept fs)
  | [], kept, h => by rw [overGo_nil]; exact h
  | x :: r, kept, h => by
    rw [overGo_cons]
    split
    · exact over_apart r kept h
    · rename_i hk
      refine over_apart r _ ?_
      unfold Apart
      rw [List.pairwise_append]
      refine ⟨h, List.pairwise_singleton _ _, fun o ho y hy => ?_⟩
      rw [List.mem_singleton] at hy
      subst hy
      cases q : clash y o with
      | false => rfl
      | true => exact absurd (List.any_eq_true.mpr ⟨o, ho, q⟩) hk
def covAt (x : Nat) (f : Fd) : Nat := if f.start ≤ x ∧ x < f.stop then 1 else 0
theorem cov_none {x : Nat} : ∀ {fs : List Fd} {f : Fd}, f.start ≤ x → x < f.stop → (∀ g ∈ fs, clash g f = false) → mass (covAt x) fs = 0
  | [], _, _, _, _ => rfl
  | g :: r, f, h1, h2, h => by
    have hg := h g (List.mem_cons_self ..)
    rw [mass_cons, cov_none h1 h2 fun k hk => h k (List.mem_cons_of_mem _ hk)]
    unfold clash at hg
    simp at hg
    unfold covAt
    split <;> omega
theorem cov_one {x : Nat} : ∀ {fs : List Fd}, Apart fs → mass (covAt x) fs ≤ 1
  | [], _ => Nat.zero_le _
  | f :: r, h => by
    unfold Apart at h
    rw [List.pairwise_cons] at h
    rw [mass_cons]
    by_cases q : f.start ≤ x ∧ x < f.stop
    · rw [cov_none q.1 q.2 h.1]
      unfold covAt
      rw [if_pos q]
      omega
    · have := cov_one (x := x) (fs := r) h.2
      unfold covAt at this ⊢
      rw [if_neg q]
      omega
theorem mass_plus {α : Type} {f g h : α → Nat} (e : ∀ x, f x = g x + h x) : ∀ l : List α, mass f l = mass g l + mass h l
  | [] => rfl
  | x :: l => by
    rw [mass_cons, mass_cons, mass_cons, mass_plus e l, e]
    omega
theorem cov_sum {fs : List Fd} (h : Apart fs) : ∀ n, mass (fun f : Fd => min f.stop n - min f.start n) fs ≤ n
  | 0 => by
    have : mass (fun f : Fd => min f.stop 0 - min f.start 0) fs ≤ mass (fun _ => 0) fs := mass_le fun f _ => by omega
    have h0 : ∀ l : List Fd, mass (fun _ => 0) l = 0 := fun l => by
      induction l with
      | nil => rfl
      | cons x l ih => rw [mass_cons, ih]
    rw [h0] at this
    exact this
  | n + 1 => by
    have e : mass (fun f : Fd => min f.stop (n + 1) - min f.start (n + 1)) fs = mass (fun f : Fd => min f.stop n - min f.start n) fs + mass (covAt n) fs := mass_plus (fun f => by
      unfold covAt
      split <;> omega) fs
    have h1 := cov_sum h n
    have h2 := cov_one (x := n) h
    omega
theorem apart_mass {fs : List Fd} {n : Nat} (h : Apart fs) (h2 : ∀ f ∈ fs, f.start + 20 + f.en.part.length ≤ f.stop ∧ f.stop ≤ n) : mass (fun f : Fd => 20 + f.en.part.length) fs ≤ n := by
  refine Nat.le_trans (mass_le (g := fun f : Fd => min f.stop n - min f.start n) fun f hf => ?_) (cov_sum h n)
  have := h2 f hf
  omega
theorem over_sublist : ∀ (fs kept : List Fd), (overGo kept fs).Sublist (kept ++ fs)
  | [], kept => by rw [overGo_nil, List.append_nil]; exact List.Sublist.refl _
  | x :: r, kept => by
    rw [overGo_cons]
    split
    · exact (over_sublist r kept).trans (List.Sublist.append (List.Sublist.refl _) (List.sublist_cons_self x r))
    · have := over_sublist r (kept ++ [x])
      rw [List.append_assoc] at this
      exact this
/-! the search -/
theorem search_mass {xs : List Int} : ∀ (n a : Nat), mass (fun e : En => 20 + e.name.length + e.part.length) (searchGo xs n a) ≤ xs.length - a ∧ ∀ e ∈ searchGo xs n a, Src xs e
  | 0, a => ⟨by rw [searchGo, mass_nil]; omega, fun e he => by rw [searchGo] at he; cases he⟩
  | n + 1, a => by
    rw [searchGo]
    split
    · cases e : headAt xs a with
      | none =>
        obtain ⟨h1, h2⟩ := search_mass (xs := xs) n (a + 1)
        exact ⟨by show mass _ (searchGo xs n (a + 1)) ≤ _; omega, h2⟩
      | some h =>
        obtain ⟨h1, h2⟩ := search_mass (xs := xs) n h.stop
        have h3 := head_mass e
        refine ⟨?_, fun f hf => ?_⟩
        · show mass _ (h.en :: searchGo xs n h.stop) ≤ _
          rw [mass_cons]
          omega
        · rcases List.mem_cons.mp hf with z | z
          · rw [z]
            exact ⟨a, h, h.en.name, e, rfl, by omega⟩
          · exact h2 f z
    · exact ⟨by rw [mass_nil]; omega, fun f hf => nomatch hf⟩
/-! what is opened -/
theorem cands_law (xs : List Int) : (∀ e ∈ cands xs, Src xs e) ∧ mass (fun e : En => 10 + e.name.length) (cands xs) ≤ xs.length ∧ mass (fun e : En => 20 + e.part.length) (cands xs) ≤ xs.length := by
  unfold cands
  split
  · obtain ⟨h1, h2⟩ := search_mass (xs := xs) xs.length 0
    refine ⟨h2, Nat.le_trans (mass_le fun e _ => ?_) (Nat.le_trans h1 (by omega)), Nat.le_trans (mass_le fun e _ => ?_) (Nat.le_trans h1 (by omega))⟩ <;> omega
  · unfold founds
    split
    · rename_i hz
      have hs := over_sublist (dirs xs (lastEnd xs).toNat) []
      have hin : ∀ f ∈ overGo [] (dirs xs (lastEnd xs).toNat), f ∈ dirs xs (lastEnd xs).toNat := fun f hf => (over_sub _ _ f hf).elim (fun z => nomatch z) id
      refine ⟨fun e he => ?_, ?_, ?_⟩
      · obtain ⟨f, hf, rfl⟩ := List.mem_map.mp he
        exact (dirGo_src _ _ f (hin f hf)).1
      · rw [mass_map]
        have h1 := dirGo_mass (xs := xs) (pl := (lastEnd xs).toNat) (lowN ((xs.drop ((lastEnd xs).toNat + 4)).take 2)) ((lastEnd xs).toNat - lowN ((xs.drop ((lastEnd xs).toNat + 6)).take 4))
        have h2 := mass_sub (fun f : Fd => 10 + f.en.name.length) hs
        obtain ⟨a, ea, la, _⟩ := lastGo_end _ hz
        have h3 : (lastEnd xs).toNat ≤ xs.length := by
          have : lastEnd xs = (a : Int) := ea
          omega
        rw [List.nil_append] at h2
        unfold dirs at h2 ⊢
        omega
      · rw [mass_map]
        exact apart_mass (over_apart _ [] List.Pairwise.nil) fun f hf => (dirGo_src _ _ f (hin f hf)).2
    · rw [overGo_nil]
      exact ⟨fun e he => (nomatch he), Nat.zero_le _, Nat.zero_le _⟩
theorem lastOf_sub : ∀ l : List Ep, (lastOf l).Sublist l
  | [] => List.Sublist.refl _
  | e :: r => by
    rw [lastOf]
    split
    · exact (lastOf_sub r).cons e
    · exact (lastOf_sub r).cons_cons e
theorem lastOf_nd : ∀ l : List Ep, ((lastOf l).map Ep.name).Nodup
  | [] => List.nodup_nil
  | e :: r => by
    rw [lastOf]
    split
    · exact lastOf_nd r
    · rename_i h
      rw [List.map_cons, List.nodup_cons]
      exact ⟨fun z => h (((lastOf_sub r).map Ep.name).subset z), lastOf_nd r⟩
theorem lastOf_id : ∀ {l : List Ep}, (l.map Ep.name).Nodup → lastOf l = l
  | [], _ => rfl
  | e :: r, h => by
    rw [List.map_cons, List.nodup_cons] at h
    rw [lastOf, if_neg h.1, lastOf_id h.2]
structure EpOk (e : Ep) : Prop where
  name : plainName (nameI e) = e.name
  low : ∀ c ∈ e.name, 32 ≤ c ∧ c ≤ 126
  len : e.name.length ≤ 100
  meth : 0 ≤ e.meth ∧ e.meth ≤ 255
  size : 0 ≤ e.size ∧ e.size < 4294967296
  total : 0 ≤ e.total ∧ e.total < 4294967296
  part : bytes e.part
structure Opened (xs : List Int) (es : List Ep) : Prop where
  few : es.length ≤ 64
  nd : (es.map Ep.name).Nodup
  ok : ∀ e ∈ es, EpOk e
  stands : ∀ e ∈ es, ∃ a, standsE xs e a
  names : mass (fun e : Ep => 6 + e.name.length) es ≤ xs.length
  parts : mass (fun e : Ep => 20 + e.part.length) es ≤ xs.length
theorem open_law {xs : List Int} (hb : bytes xs) : Opened xs (openC xs) := by
  obtain ⟨h1, h2, h3⟩ := cands_law xs
  have hs : (openC xs).Sublist ((cands xs).map plainE) := (List.take_sublist ..).trans (lastOf_sub _)
  have src : ∀ e ∈ openC xs, ∃ c, Src xs c ∧ plainE c = e := fun e he => by
    obtain ⟨c, hc, e1⟩ := List.mem_map.mp (hs.subset he)
    exact ⟨c, h1 c hc, e1⟩
  refine ⟨?_, ?_, fun e he => ?_, fun e he => ?_, ?_, ?_⟩
  · unfold openC
    rw [List.length_take]
    omega
  · unfold openC
    exact List.Nodup.sublist ((List.take_sublist ..).map Ep.name) (lastOf_nd _)
  · obtain ⟨c, hc, rfl⟩ := src e he
    have n := src_num hb hc
    exact ⟨plainName_id c.name, plainName_low c.name, plainName_len c.name, n.meth, n.size, n.total, n.part⟩
  · obtain ⟨c, hc, rfl⟩ := src e he
    exact src_stands hb hc
  · refine Nat.le_trans (mass_sub _ hs) ?_
    rw [mass_map]
    refine Nat.le_trans (mass_le fun c _ => ?_) h2
    have := plainName_raw c.name
    show 6 + (plainName c.name).length ≤ _
    omega
  · refine Nat.le_trans (mass_sub _ hs) ?_
    rw [mass_map]
    exact h3
end K9
namespace K9
open PySem PySem.Spec PyProof.Rows L2 Evl
/-! ### what is written opens again -/
theorem stp {X A T : List Int} {a : Nat} (k : Nat) (h : X.drop a = A ++ T) (hk : A.length = k) : X.drop (a + k) = T := by
  rw [← List.drop_drop, h, ← hk, List.drop_left]
theorem tak {X A T : List Int} {a : Nat} (k : Nat) (h : X.drop a = A ++ T) (hk : A.length = k) : (X.drop a).take k = A := by
  rw [h, ← hk, List.take_left]
def enI (e : Ep) : En := ⟨nameI e, e.meth, e.size, e.total, e.part⟩
def plsOf : Nat → List Ep → List (Nat × List Int)
  | _, [] => []
  | n, e :: r => (n, nameI e) :: plsOf (n + (hdB e).length) r
def fdsOf : Nat → List Ep → List Fd
  | _, [] => []
  | n, e :: r => ⟨enI e, n, n + (hdB e).length⟩ :: fdsOf (n + (hdB e).length) r
theorem bp_all : ∀ (l : List Ep) (st : List Int × List (Nat × List Int)), l.foldl wstep st = (st.1 ++ l.flatMap hdB, st.2 ++ plsOf st.1.length l)
  | [], st => by
    show st = _
    simp [plsOf]
  | e :: r, st => by
    rw [List.foldl_cons, bp_all r]
    show ((st.1 ++ hdB e) ++ r.flatMap hdB, (st.2 ++ [(st.1.length, nameI e)]) ++ plsOf (st.1 ++ hdB e).length r) = _
    rw [List.flatMap_cons, plsOf, List.length_append, List.append_assoc, List.append_assoc]
    rfl
theorem bp_is (es : List Ep) : bp es = (es.flatMap hdB, plsOf 0 es) := by
  unfold bp
  rw [bp_all]
  simp
theorem nameI_len (e : Ep) : (nameI e).length = e.name.length := by unfold nameI; rw [List.length_map]
theorem hdB_len (e : Ep) : (hdB e).length = 20 + e.name.length + e.part.length := by
  unfold hdB hdA hdC crt
  simp [low2_len, nameI_len]
  omega
theorem recB_len (pl : Int) (p : Nat × List Int) : (recB pl p).length = 10 + p.2.length := by
  unfold recB cdir
  simp [low2_len]
  omega
def rmass (es : List Ep) : Nat := mass (fun e : Ep => 10 + e.name.length) es
theorem recs_len (pl : Int) : ∀ (es : List Ep) (n : Nat), ((plsOf n es).flatMap (recB pl)).length = rmass es
  | [], n => rfl
  | e :: r, n => by
    have ih := recs_len pl r (n + (hdB e).length)
    unfold rmass at ih ⊢
    rw [plsOf, List.flatMap_cons, List.length_append, ih, recB_len, mass_cons]
    show 10 + (nameI e).length + _ = _
    rw [nameI_len]
theorem recs_sum : ∀ (es : List Ep) (n : Nat), ((plsOf n es).map fun p => 10 + (p.2.length : Int)).sum = (rmass es : Int)
  | [], n => rfl
  | e :: r, n => by
    have ih := recs_sum r (n + (hdB e).length)
    unfold rmass at ih ⊢
    rw [plsOf, List.map_cons, List.sum_cons, ih, mass_cons]
    show 10 + ((nameI e).length : Int) + _ = _
    rw [nameI_len]
    omega
theorem recs_is (es : List Ep) : recs es = (rmass es : Int) := by
  unfold recs
  rw [bp_is]
  exact recs_sum es 0
def dlen (es : List Ep) : Nat := (es.flatMap hdB).length
theorem dlen_cons (e : Ep) (r : List Ep) : dlen (e :: r) = (hdB e).length + dlen r := by unfold dlen; rw [List.flatMap_cons, List.length_append]
theorem dlen_mass : ∀ es : List Ep, dlen es = mass (fun e : Ep => 20 + e.name.length + e.part.length) es
  | [] => rfl
  | e :: r => by rw [dlen_cons, dlen_mass r, mass_cons, hdB_len]
theorem placeOf_is (es : List Ep) : placeOf es = ((dlen es + rmass es : Nat) : Int) := by
  unfold placeOf
  rw [recs_is, bp_is]
  show ((es.flatMap hdB).length : Int) + _ = _
  unfold dlen
  omega
theorem plsOf_len : ∀ (es : List Ep) (n : Nat), (plsOf n es).length = es.length
  | [], n => rfl
  | e :: r, n => by rw [plsOf, List.length_cons, List.length_cons, plsOf_len r]
theorem writeC_is (es : List Ep) : writeC es = es.flatMap hdB ++ ((plsOf 0 es).flatMap (recB ((dlen es + rmass es : Nat) : Int)) ++ (cend ++ (low2 (es.length : Nat) 2 ++ low2 (rmass es : Nat) 4))) := by
  unfold writeC endB
  rw [placeOf_is, recs_is, bp_is]
  show ((es.flatMap hdB) ++ (plsOf 0 es).flatMap _) ++ (cend ++ (low2 ((plsOf 0 es).length : Nat) 2 ++ _)) = _
  rw [plsOf_len, List.append_assoc]
theorem writeC_len (es : List Ep) : (writeC es).length = dlen es + rmass es + 10 := by
  rw [writeC_is, List.length_append, List.length_append, recs_len]
  have e : (cend ++ (low2 (es.length : Nat) 2 ++ low2 (rmass es : Nat) 4)).length = 10 := by
    rw [List.length_append, List.length_append, low2_len, low2_len]
    rfl
  rw [e]
  unfold dlen
  omega
theorem drop_len {X L : List Int} {a : Nat} (h : X.drop a = L) (h2 : 0 < L.length) : X.length = a + L.length := by
  have := congrArg List.length h
  rw [List.length_drop] at this
  omega
theorem head_rt {X rest : List Int} {a : Nat} {e : Ep} (h : X.drop a = hdB e ++ rest) (ok : EpOk e) (hp : e.part.length < 4294967296) : headAt X a = some ⟨enI e, true, a + (hdB e).length⟩ := by
  have hl := hdB_len e
  have hX : X.length = a + ((hdB e).length + rest.length) := by
    have := drop_len h (by rw [List.length_append]; omega)
    rw [List.length_append] at this
    exact this
  have d0 : X.drop a = crt ++ ([e.meth, 0] ++ (low2 ((nameI e).length : Nat) 2 ++ (low2 e.size 4 ++ (low2 e.total 4 ++ (low2 (e.part.length : Nat) 4 ++ (nameI e ++ (e.part ++ rest))))))) := by
    rw [h]
    unfold hdB hdA hdC
    simp
  have d4 := stp 4 d0 rfl
  have d6 : X.drop (a + 6) = _ := stp 2 d4 rfl
  have d8 : X.drop (a + 8) = _ := stp 2 d6 (low2_len _ _)
  have d12 : X.drop (a + 12) = _ := stp 4 d8 (low2_len _ _)
  have d16 : X.drop (a + 16) = _ := stp 4 d12 (low2_len _ _)
  have d20 : X.drop (a + 20) = _ := stp 4 d16 (low2_len _ _)
  have dF := stp (nameI e).length d20 rfl
  have nl := nameI_len e
  have n6 : lowN ((X.drop (a + 6)).take 2) = (nameI e).length := by
    rw [tak 2 d6 (low2_len _ _), lowN_low2 2 (by have := ok.len; omega)]
  have n16 : lowN ((X.drop (a + 16)).take 4) = e.part.length := by
    rw [tak 4 d16 (low2_len _ _), lowN_low2 4 (by omega)]
  have hF : firstOf X a = a + 20 + (nameI e).length := by unfold firstOf; rw [n6]
  have hS : stopOf X a = a + (hdB e).length := by
    unfold stopOf
    rw [hF, n16]
    omega
  have s4 : st4 X crt a = true := by
    unfold st4
    exact decide_eq_true (tak 4 d0 rfl)
  unfold headAt
  rw [if_neg (by rw [s4]; intro z; rcases z with z | z; cases z; omega), if_neg (by rw [hF]; omega), hS, n6, n16, hF]
  have m4 : X.getD (a + 4) 0 = e.meth := by
    have := congrArg (fun l : List Int => l[0]?) d4
    simp only [List.getElem?_drop] at this
    rw [List.getD_eq_getElem?_getD]
    simp at this
    rw [this]
    rfl
  have z8 : lowNum ((X.drop (a + 8)).take 4) = e.size := by rw [tak 4 d8 (low2_len _ _), lowNum_low2 4 ok.size.1 ok.size.2]
  have z12 : lowNum ((X.drop (a + 12)).take 4) = e.total := by rw [tak 4 d12 (low2_len _ _), lowNum_low2 4 ok.total.1 ok.total.2]
  have z20 : (X.drop (a + 20)).take (nameI e).length = nameI e := tak _ d20 rfl
  have zF : (X.drop (a + 20 + (nameI e).length)).take e.part.length = e.part := tak _ dF rfl
  rw [m4, z8, z12, z20, zF, decide_eq_true (show a + (hdB e).length ≤ X.length by omega), show min (a + (hdB e).length) X.length = a + (hdB e).length by omega]
  rfl
theorem dir_rt {X : List Int} {b place : Nat} (hpl : place < 4294967296) : ∀ (r : List Ep) (n a : Nat) (W1 W2 : List Int), X.drop (b + n) = r.flatMap hdB ++ W1 → X.drop a = (plsOf n r).flatMap (recB (place : Int)) ++ W2 → n + dlen r ≤ place → a + rmass r ≤ b + place → (∀ e ∈ r, EpOk e) →
    dirGo X (b + place) r.length a = fdsOf (b + n) r
  | [], n, a, W1, W2, _, _, _, _, _ => rfl
  | e :: r, n, a, W1, W2, h1, h2, h3, h4, hok => by
    have ok := hok e (List.mem_cons_self ..)
    rw [List.flatMap_cons, List.append_assoc] at h1
    rw [plsOf, List.flatMap_cons, List.append_assoc] at h2
    rw [dlen_cons] at h3
    unfold rmass at h4
    rw [mass_cons] at h4
    have hl := hdB_len e
    have nl := nameI_len e
    have d0 : X.drop a = cdir ++ (low2 ((place - n : Nat) : Int) 4 ++ (low2 ((nameI e).length : Nat) 2 ++ (nameI e ++ ((plsOf (n + (hdB e).length) r).flatMap (recB (place : Int)) ++ W2)))) := by
      rw [h2]
      unfold recB
      rw [show ((place : Int) - (n : Nat) : Int) = ((place - n : Nat) : Int) by omega]
      simp
    have d4 := stp 4 d0 rfl
    have d8 : X.drop (a + 8) = _ := stp 4 d4 (low2_len _ _)
    have d10 : X.drop (a + 10) = _ := stp 2 d8 (low2_len _ _)
    have n4 : distOf X a = place - n := by
      unfold distOf
      rw [tak 4 d4 (low2_len _ _), lowN_low2 4 (by omega)]
    have n8 : lowN ((X.drop (a + 8)).take 2) = (nameI e).length := by
      rw [tak 2 d8 (low2_len _ _), lowN_low2 2 (by have := ok.len; omega)]
    have hB : behindOf X a = a + 10 + (nameI e).length := by unfold behindOf; rw [n8]
    have s4 : st4 X cdir a = true := by
      unfold st4
      exact decide_eq_true (tak 4 d0 rfl)
    have hr : recOk X (b + place) a = true := by
      unfold recOk
      rw [s4, hB, n4, decide_eq_false (by omega), decide_eq_false (by omega), decide_eq_false (by omega)]
      rfl
    have hf : recFd X (b + place) a = [⟨enI e, b + n, b + n + (hdB e).length⟩] := by
      unfold recFd
      rw [n4, show b + place - (place - n) = b + n by omega, head_rt h1 ok (by omega), n8, tak _ d10 rfl]
      rfl
    have h1' := stp (hdB e).length h1 rfl
    have h2' := stp (recB (place : Int) (n, nameI e)).length h2 rfl
    rw [recB_len] at h2'
    rw [List.length_cons, dirGo, if_pos hr, hf, hB, fdsOf]
    rw [Nat.add_assoc] at h1'
    have ih := dir_rt hpl r (n + (hdB e).length) (a + 10 + (nameI e).length) W1 W2 h1' (by rw [Nat.add_assoc]; exact h2') (by omega) (by unfold rmass; omega) fun x hx => hok x (List.mem_cons_of_mem _ hx)
    rw [ih, Nat.add_assoc b n]
    rfl
theorem over_rt : ∀ (r : List Ep) (n : Nat) (kept : List Fd), (∀ o ∈ kept, o.stop ≤ n) → overGo kept (fdsOf n r) = kept ++ fdsOf n r
  | [], n, kept, _ => by
    rw [fdsOf, overGo_nil, List.append_nil]
  | e :: r, n, kept, h => by
    rw [fdsOf, overGo_cons, if_neg, over_rt r _ _ fun o ho => ?_, List.append_assoc]
    · rfl
    · rcases List.mem_append.mp ho with z | z
      · have := h o z
        omega
      · rw [List.mem_singleton] at z
        subst z
        exact Nat.le_refl _
    · intro z
      obtain ⟨o, ho, hc⟩ := List.any_eq_true.mp z
      have := h o ho
      unfold clash at hc
      simp at hc
      omega
theorem fds_plain : ∀ (r : List Ep) (n : Nat), (∀ e ∈ r, EpOk e) → ((fdsOf n r).map Fd.en).map plainE = r
  | [], n, _ => rfl
  | e :: r, n, h => by
    rw [fdsOf, List.map_cons, List.map_cons, fds_plain r _ fun x hx => h x (List.mem_cons_of_mem _ hx)]
    have := (h e (List.mem_cons_self ..)).name
    show plainE (enI e) :: r = _
    unfold plainE enI
    rw [this]
theorem open_rt {B : List Int} {es : List Ep} (hne : es ≠ []) (hlen : es.length ≤ 64) (nd : (es.map Ep.name).Nodup) (ok : ∀ e ∈ es, EpOk e) (hX : B.length + (writeC es).length < 4294967296) : openC (B ++ writeC es) = es := by
  rw [writeC_len] at hX
  have hw := writeC_is es
  generalize hXe : B ++ writeC es = X
  have hXl : X.length = B.length + (dlen es + rmass es) + 10 := by
    rw [← hXe, List.length_append, writeC_len]
    omega
  have d0 : X.drop 0 = B ++ (es.flatMap hdB ++ ((plsOf 0 es).flatMap (recB ((dlen es + rmass es : Nat) : Int)) ++ (cend ++ (low2 (es.length : Nat) 2 ++ low2 (rmass es : Nat) 4)))) := by
    rw [← hXe, hw]
    rfl
  have dB := stp B.length d0 rfl
  rw [Nat.zero_add] at dB
  have dD := stp (dlen es) dB rfl
  have dP := stp (rmass es) dD (recs_len _ _ _)
  have hpl : B.length + dlen es + rmass es = B.length + (dlen es + rmass es) := by omega
  rw [hpl] at dP
  generalize hplace : dlen es + rmass es = place at dP dD dB hXl hX
  have d4 := stp 4 dP rfl
  have d6 : X.drop (B.length + place + 6) = _ := stp 2 d4 (low2_len _ _)
  rw [← List.append_nil (low2 (rmass es : Nat) 4)] at d6
  have n4 : lowN ((X.drop (B.length + place + 4)).take 2) = es.length := by rw [tak 2 d4 (low2_len _ _), lowN_low2 2 (by omega)]
  have t6 := tak 4 d6 (low2_len _ _)
  have n6 : lowN ((X.drop (B.length + place + 6)).take 4) = rmass es := by rw [t6, lowN_low2 4 (by omega)]
  have m6 : lowNum ((X.drop (B.length + place + 6)).take 4) = (rmass es : Int) := by rw [t6, lowNum_low2 4 (by omega) (by omega)]
  have hE : isEnd X (B.length + place) = true := by
    unfold isEnd
    rw [m6, decide_eq_true (show (rmass es : Int) ≤ ((B.length + place : Nat) : Int) by omega), Bool.and_true]
    unfold st4
    exact decide_eq_true (tak 4 dP rfl)
  have hL : lastEnd X = ((B.length + place : Nat) : Int) := by
    unfold lastEnd
    rw [show X.length - 9 = (B.length + place) + 1 by omega, lastGo, if_pos hE]
  have hFo : founds X = fdsOf B.length es := by
    unfold founds
    rw [if_pos (by rw [hL]; omega), hL, Int.toNat_natCast]
    unfold dirs
    rw [n4, n6, show B.length + place - rmass es = B.length + dlen es by omega]
    exact dir_rt (by omega) es 0 (B.length + dlen es) _ _ dB dD (by omega) (by omega) ok
  have hC : (cands X).map plainE = es := by
    unfold cands
    rw [hFo, if_neg, over_rt es _ [] (fun o ho => nomatch ho), List.nil_append, fds_plain es _ ok]
    cases es with
    | nil => exact absurd rfl hne
    | cons e r => intro z; cases z
  unfold openC
  rw [hC, lastOf_id nd, List.take_of_length_le hlen]
theorem bytes_nameI {e : Ep} (ok : EpOk e) : bytes (nameI e) := fun b hb => by
  unfold nameI at hb
  obtain ⟨c, hc, rfl⟩ := List.mem_map.mp hb
  have := ok.low c hc
  omega
theorem bytes_dec (l : List Int) (h : (l.all fun b => decide (0 ≤ b) && decide (b ≤ 255)) = true) : bytes l := fun b hb => by
  have := List.all_eq_true.mp h b hb
  simpa using this
theorem bytes_hdB {e : Ep} (ok : EpOk e) : bytes (hdB e) := by
  unfold hdB hdA hdC
  refine bytes_app (bytes_app (bytes_dec _ rfl) (?_ : bytes ([e.meth, 0] ++ (low2 (nameI e).length 2 ++ (low2 e.size 4 ++ low2 e.total 4))))) (bytes_app (bytes_low2 (by omega) _) (bytes_app (bytes_nameI ok) ok.part))
  have h1 : bytes [e.meth, 0] := fun b hb => by
    have := ok.meth
    simp at hb
    omega
  exact bytes_app h1 (bytes_app (bytes_low2 (show (0:Int) ≤ ((nameI e).length : Int) by omega) _) (bytes_app (bytes_low2 ok.size.1 _) (bytes_low2 ok.total.1 _)))
theorem bytes_recs {place : Nat} : ∀ (r : List Ep) (n : Nat), (∀ e ∈ r, EpOk e) → n + dlen r ≤ place → bytes ((plsOf n r).flatMap (recB (place : Int)))
  | [], n, _, _ => bytes_nil
  | e :: r, n, h, hn => by
    rw [dlen_cons] at hn
    rw [plsOf, List.flatMap_cons]
    refine bytes_app ?_ (bytes_recs r _ (fun x hx => h x (List.mem_cons_of_mem _ hx)) (by omega))
    unfold recB
    exact bytes_app (bytes_dec _ rfl) (bytes_app (bytes_low2 (show 0 ≤ (place : Int) - (n : Nat) by omega) _) (bytes_app (bytes_low2 (by omega) _) (bytes_nameI (h e (List.mem_cons_self ..)))))
theorem bytes_flat : ∀ (r : List Ep), (∀ e ∈ r, EpOk e) → bytes (r.flatMap hdB)
  | [], _ => bytes_nil
  | e :: r, h => by
    rw [List.flatMap_cons]
    exact bytes_app (bytes_hdB (h e (List.mem_cons_self ..))) (bytes_flat r fun x hx => h x (List.mem_cons_of_mem _ hx))
theorem bytes_write {es : List Ep} (ok : ∀ e ∈ es, EpOk e) : bytes (writeC es) := by
  rw [writeC_is]
  exact bytes_app (bytes_flat es ok) (bytes_app (bytes_recs es 0 ok (by omega)) (bytes_app (bytes_dec _ rfl) (bytes_app (bytes_low2 (by omega) _) (bytes_low2 (by omega) _))))
theorem mass_mul {α : Type} {f g h : α → Nat} (e : ∀ x, f x ≤ 2 * g x + h x) : ∀ l : List α, mass f l ≤ 2 * mass g l + mass h l
  | [] => Nat.zero_le _
  | x :: l => by
    have := e x
    have := mass_mul e l
    rw [mass_cons, mass_cons, mass_cons]
    omega
theorem write_short {xs : List Int} {es : List Ep} (o : Opened xs es) : (writeC es).length ≤ 3 * xs.length + 10 := by
  have h1 := mass_mul (f := fun e : Ep => 20 + e.name.length + e.part.length + (10 + e.name.length)) (g := fun e : Ep => 6 + e.name.length) (h := fun e : Ep => 20 + e.part.length) (fun e => by omega) es
  have h2 := mass_plus (f := fun e : Ep => 20 + e.name.length + e.part.length + (10 + e.name.length)) (g := fun e : Ep => 20 + e.name.length + e.part.length) (h := fun e : Ep => 10 + e.name.length) (fun e => rfl) es
  have h3 := o.names
  have h4 := o.parts
  rw [writeC_len, dlen_mass]
  unfold rmass
  omega
end K9
namespace K9
open PySem PySem.Spec PyProof.Rows L2 Evl
/-! ### the law -/
theorem scLaw : FnScope ["_law_script", "_law_data", "_law_given", "_law_entries", "_law_left", "_law_names", "_law_total", "_law_entry", "_law_before", "_law_again"] ["_law_script"] (defScope sLaw) := ⟨rfl, rfl, rfl, by decide +kernel, rfl, by decide +kernel, by decide +kernel⟩
theorem ep_plain (e : Ep) : e.py.plain = true := by
  have h2 := plainAll_ints e.part
  show PyData.plainAll [.str (tx e.name), .int e.meth, .int e.size, .int e.total, .tuple (e.part.map PyData.int)] = true
  simp only [PyData.plainAll, PyData.plain, h2, Bool.and_true, Bool.true_and, Bool.and_self]
theorem ep_depth (e : Ep) : e.py.depth ≤ 2 := by
  have h2 := depthAll_ints e.part
  show PyData.depthAll [.str (tx e.name), .int e.meth, .int e.size, .int e.total, .tuple (e.part.map PyData.int)] + 1 ≤ 2
  simp only [PyData.depthAll, PyData.depth, h2]
  decide
def ansD (es : List Ep) (n : Int) : PyData := .tuple [.list (es.map Ep.py), .int n]
theorem ans_plain (es : List Ep) (n : Int) : (ansD es n).plain = true := by
  have h : PyData.plainAll (es.map Ep.py) = true := plainAll_of fun d hd => by
    obtain ⟨e, _, rfl⟩ := List.mem_map.mp hd
    exact ep_plain e
  show PyData.plainAll [.list (es.map Ep.py), .int n] = true
  simp only [PyData.plainAll, PyData.plain, h, Bool.and_true, Bool.true_and, Bool.and_self]
theorem ans_depth (es : List Ep) (n : Int) : (ansD es n).depth ≤ 64 := by
  have h : PyData.depthAll (es.map Ep.py) ≤ 2 := depthAll_of fun d hd => by
    obtain ⟨e, _, rfl⟩ := List.mem_map.mp hd
    exact ep_depth e
  show PyData.depthAll [.list (es.map Ep.py), .int n] + 1 ≤ 64
  simp only [PyData.depthAll, PyData.depth]
  omega
theorem only_new {H H2 : Hp} {p : Addr} {xs : List V} (h : Only H) (e : Ex H H2) (h2 : H2 p = some (.lst xs)) : H p = none := by
  rcases h p with q | ⟨o, ys, q⟩
  · exact q
  · have := e p _ q
    rw [h2] at this
    cases this
theorem hid_keep {H H2 : Hp} {p : Addr} (e : Ex H H2) (h : H p = none) : Ex H (hid H2 p) := fun b u q => by
  unfold hid
  split
  · rename_i z
    rw [z, h] at q
    cases q
  · exact e b u q
def spLaw (K : PySem.W.Frag) : Sp := fun vs H Q _ => ∃ (a : Addr) (ns : List Int), vs = [.ref a] ∧ Only H ∧ SqL K H a (ns.map V.int) ∧ ns.length ≤ 63 ∧ ∀ H', Q (.bl true) H'
theorem total_snoc {es : List Ep} {i : Nat} {e : Ep} (h : es[i]? = some e) : mass (fun e : Ep => e.part.length) (es.take (i + 1)) = mass (fun e : Ep => e.part.length) (es.take i) + e.part.length := by
  rw [take_snoc h, mass_app]
  rfl
theorem name_new {es : List Ep} {i : Nat} {e : Ep} (nd : (es.map Ep.name).Nodup) (h : es[i]? = some e) : decide (tx e.name ∈ (es.take i).map fun e => tx e.name) = false := by
  rw [decide_eq_false_iff_not, mem_tx]
  intro z
  have e1 : es = es.take i ++ (e :: es.drop (i + 1)) := by
    obtain ⟨hi, hx⟩ := List.getElem?_eq_some_iff.mp h
    rw [← hx, ← List.drop_eq_getElem_cons hi, List.take_append_drop]
  rw [e1, List.map_append, List.map_cons, List.nodup_append] at nd
  exact nd.2.2 _ z _ (List.mem_cons_self ..) rfl
theorem mass_mem {α : Type} (f : α → Nat) {x : α} : ∀ {l : List α}, x ∈ l → f x ≤ mass f l
  | y :: l, h => by
    rw [mass_cons]
    rcases List.mem_cons.mp h with z | z
    · rw [z]; omega
    · have := mass_mem f z
      omega
section
variable {P : Program} {w : World} {K : PySem.W.Frag} {mg : Str → Option Value} {base : Heap} {f : Addr} {fd : FuncData}
theorem ok_law (T : Gs K mg) (F : Fun K "law" "law" sLaw f fd) (cCr : Cal P w K mg base 3 "_law_crate" ["_law_script"] (spR K preCrate fun _ => postBytes 500)) (cSp : Cal P w K mg base 1 "_law_spoilt" ["_law_script", "_law_data"] (spSpoilt K))
    (cO : CalD P w K mg base 4 "open_crate" ["data", "left"] preOpen) (cP : CalD P w K mg base 3 "plain_name" ["data"] prePlain) (cC : CalD P w K mg base 1 "_law_codes" ["_law_text"] preCodes) (cS : CalD P w K mg base 2 "_law_stands" ["_law_data", "_law_entry"] preLStands)
    (cRow : CalD P w K mg base 1 "_law_row" ["_law_cell_here", "_law_count"] preRow) (cCell : CalD P w K mg base 1 "_law_cell" ["_law_script", "_law_k"] preCell) (cW : CalD P w K mg base 4 "write_crate" ["entries"] preWrite) :
    FnOk P w K mg base CX0 5 f fd ["_law_script"] (spLaw K) := by
  obtain ⟨fC, fdC, FC, mC, kC, bC⟩ := cCr.ex
  obtain ⟨fS, fdS, FS, mS, kS, bS⟩ := cSp.ex
  refine F.ok scLaw (fun vs H Q E h => ?_) (fun cdv A outer s H vs Q E hr h => ?_)
  · obtain ⟨a, ns, rfl, _⟩ := h
    rfl
  · obtain ⟨a, ns, rfl, hO, hS, hns, q⟩ := h
    have gd : Good (cxOf CX0 P w K mg base ["_law_script", "_law_data", "_law_given", "_law_entries", "_law_left", "_law_names", "_law_total", "_law_entry", "_law_before", "_law_again"] "law" (defScope sLaw) f cdv A outer s H E).nox := ⟨scLaw.nd, rfl, PassesOwn.never, hr.units⟩
    refine ⟨_, pss_cons (ps_set (i := 1) scLaw.nd rfl (.inl rfl) (pe_call FS (hr.mono (by decide)) (by rfl) mS kS bS .nil pass0 (pa_cons (pv 0) (pa_cons (pe_call FC (hr.mono (by decide)) (by rfl) mC kC bC .nil pass0 (pa_cons (pv 0) pa_nil)) pa_nil)))) pS, ?_⟩
    refine ⟨.ref a, rfl, .ref a, rfl, H, [scr ns], Ex.refl _, .cons (.scr hS) .nil, ⟨ns, rfl, hns⟩, fun d v G2 H2 pd g t => ?_⟩
    obtain ⟨x0, bx0, lx0, rfl⟩ := pd
    obtain ⟨p, vs, rfl, hp, D⟩ := t.list_inv
    have hvs := D.ints
    subst hvs
    have hp2 := g.s _ _ hp
    have hpn := only_new hO g.h hp2
    have ex := hid_keep g.h hpn
    refine ⟨H, a, p, ns, x0, rfl, ex, hS, hns, hp2, bx0, lx0, fun ys v G3 H3 by_ ly g3 t3 => ?_⟩
    have gr : Grow H (hid H2 p) G3 H3 := g3
    have S0 : Sls K (hid H2 p) H (hid H2 p) (L2.start ["_law_script", "_law_data", "_law_given", "_law_entries", "_law_left", "_law_names", "_law_total", "_law_entry", "_law_before", "_law_again"] [V.ref a]) [.pur (scr ns), .emp, .emp, .emp, .emp, .emp, .emp, .emp, .emp, .emp] := start_sls (Da.cons (.scr hS) .nil) (by show 1 ≤ 10; decide)
    have S1 := (S0.grow gr).set (i := 1) t3
    have k : ∀ v G4 H4, Grow H (hid H2 p) G4 H4 → Dt K G4 v (.bool true) → Q v H4 := fun v G4 H4 _ t => by
      rw [t.bool_inv]
      exact q _
    have o := open_law by_
    have hlen : ((ys.map PyData.int).length : Int) = (ys.length : Int) := by rw [List.length_map]
    generalize hes : openC ys = es at o
    have hwl := write_short o
    have hparts : ∀ e ∈ es, e.part.length ≤ 60000 := fun e he => by
      have h1 := mass_mem (fun e : Ep => 20 + e.part.length) he
      have h2 := o.parts
      omega
    have htot : mass (fun e : Ep => e.part.length) es ≤ ys.length := Nat.le_trans (mass_le fun e _ => by omega) o.parts
    have few := o.few
    have R : Run (cxOf CX0 P w K mg base ["_law_script", "_law_data", "_law_given", "_law_entries", "_law_left", "_law_names", "_law_total", "_law_entry", "_law_before", "_law_again"] "law" (defScope sLaw) f cdv A outer s H E).nox H (hid H2 p) Q [.pur (scr ns), .pur (il ys), .emp, .emp, .emp, .emp, .emp, .emp, .emp, .emp] (defBody sLaw).tail { nx := fun _ => False } := by
      refine r_set (d := il ys) 2 gd (n_listL T.list (v_var 1 rfl).lv).ev ?_
      refine r_unp (ds := [.list (es.map Ep.py), .int (5000 - (1 + (ys.length : Int)))]) gd (Ev.to (v_call cO (hr.mono (by decide)) (a_cons (v_var 2 rfl) (a_cons v_int a_nil)) ⟨ys, 5000, rfl, by_, by omega, by omega, rfl⟩) (by rw [hes])) (vs := [3, 4]) (gs_cons (g_name 3 gd.nd (by decide)) (gs_cons (g_name 4 gd.nd (by decide)) gs_nil)) ?_
      refine r_ifL (b := !decide (ys = ys) || (!decide ((5000 : Int) - (1 + (ys.length : Int)) = 4999 - (ys.length : Int)) || decide ((64 : Int) < (es.length : Int)))) (w_or (t_neL gd (v_var 2 rfl).lv (v_var 1 rfl).lv) fun _ => w_or (t_ne (v_var 4 rfl) (v_sub v_int (Ev.to (v_lenL T.len (v_var 1 rfl).lv) (by rw [hlen])))) fun _ => w_or1 (t_gt (Ev.to (v_lenL T.len (v_var 3 rfl).lv) (by rw [List.length_map])) v_int)).tv (fun hb => ?_) (fun _ => ?_)
      · exfalso
        simp at hb
        omega
      refine r_own 5 gd (n_lst a_nil) ?_
      refine r_set 6 gd v_int ?_
      refine r_for gd (i_list (v_var 3 rfl)) (fun i st => ∃ z7 : Sl, st = [.pur (scr ns), .pur (il ys), .pur (il ys), .pur (.list (es.map Ep.py)), .pur (.int (5000 - (1 + (ys.length : Int)))), .own (((es.take i).map fun e => tx e.name).map PyData.str), .pur (.int (mass (fun e : Ep => e.part.length) (es.take i) : Nat)), z7, .emp, .emp]) (fun _ => False) [7] ⟨.emp, rfl⟩ ?_ ?_
      · rintro i d st1 hi ⟨z7, rfl⟩
        rw [List.getElem?_map] at hi
        obtain ⟨e, he, rfl⟩ := Option.map_eq_some_iff.mp hi
        have hem := List.mem_of_getElem? he
        have ok := o.ok e hem
        have hil : i < es.length := (List.getElem?_eq_some_iff.mp he).1
        have hnl : e.name.length ≤ 100 := ok.len
        refine ⟨_, g_name 7 gd.nd (by decide), ?_⟩
        refine r_ifL (w_or (t_not (t_val (v_isTup T.isinstance T.tuple (v_var 7 rfl)))) fun _ => w_or (t_ne (v_lenT T.len (v_var 7 rfl)) v_int) fun _ => w_or1 (t_not (t_val (v_isTup T.isinstance T.tuple (v_ixT (j := 4) (v_var 7 rfl) v_int rfl))))).tv (fun hb => nomatch hb) (fun _ => ?_)
        refine r_ifL (b := decide (tx e.name ∈ (es.take i).map fun e => tx e.name) || (!decide (tx (plainName (castI e.name)) = tx e.name) || !true)) (w_or (t_in (v_ixT (j := 0) (v_var 7 rfl) v_int rfl) (l_own 5 rfl)) fun _ => w_or (t_neS (v_call cP (hr.mono (by decide)) (a_cons (v_call cC (hr.mono (by decide)) (a_cons (v_ixT (j := 0) (v_var 7 rfl) v_int rfl) a_nil) ⟨e.name, rfl, by omega, rfl⟩) a_nil) ⟨castI e.name, rfl, by unfold castI; rw [List.length_map]; omega, rfl⟩) (v_ixT (j := 0) (v_var 7 rfl) v_int rfl)) fun _ => w_or1 (t_not (t_val (v_call cS (hr.mono (by decide)) (a_cons (v_var 1 rfl) (a_cons (v_var 7 rfl) a_nil)) ⟨ys, e, rfl, by_, by omega, hparts e hem, o.stands e hem, rfl⟩)))).tv (fun hb => ?_) (fun _ => ?_)
        · exfalso
          rw [name_new o.nd he, show plainName (castI e.name) = e.name from ok.name] at hb
          simp at hb
        refine r_app 5 gd rfl (v_ixT (j := 0) (d := .str (tx e.name)) (v_var 7 rfl) v_int rfl) (by simp; omega) ?_
        refine r_set (d := .int (mass (fun e : Ep => e.part.length) (es.take (i + 1)) : Nat)) 6 gd (Ev.to (v_add (v_var 6 rfl) (v_lenT T.len (v_ixT (j := 4) (d := .tuple (e.part.map PyData.int)) (v_var 7 rfl) v_int rfl))) (by rw [total_snoc he, List.length_map] <;> rfl)) ?_
        refine r_nil (Wk.refl _) ⟨.pur e.py, ?_⟩
        rw [take_snoc he, List.map_append, List.map_append]
        rfl
      · rintro st1 (⟨z7, rfl⟩ | h)
        · rw [List.length_map, List.take_length]
          refine r_ifL (t_gt (v_var 6 rfl) (Ev.to (v_lenL T.len (v_var 1 rfl).lv) (by rw [hlen]))) (fun hb => ?_) (fun _ => ?_)
          · exfalso
            have := of_decide_eq_true hb
            omega
          refine r_ifL (b := decide (es.length = 0)) (Tv.to (t_eq (Ev.to (v_lenL T.len (v_var 3 rfl).lv) (by rw [List.length_map])) v_int) (decide_eq_decide.mpr (by omega))) (fun _ => r_ret v_bl k) (fun hz => ?_)
          have hne : es ≠ [] := fun z => by
            rw [z] at hz
            cases hz
          have c23 := iabs_nn (lawCell ns 23)
          obtain ⟨bB, lB⟩ := bytes_row (lawCell ns 22) (iabs (lawCell ns 23) % 9).toNat
          refine r_set (d := il (lawRow (lawCell ns 22) (iabs (lawCell ns 23) % 9).toNat)) 8 gd (v_call cRow (hr.mono (by decide)) (a_cons (v_call cCell (hr.mono (by decide)) (a_cons (v_var 0 rfl) (a_cons v_int a_nil)) ⟨ns, 22, rfl, rfl⟩)
            (a_cons (Ev.n (i := iabs (lawCell ns 23) % 9) (iabs (lawCell ns 23) % 9).toNat (v_mod (by decide) (v_intI T.int (v_abs T.abs (v_call cCell (hr.mono (by decide)) (a_cons (v_var 0 rfl) (a_cons v_int a_nil)) ⟨ns, 23, rfl, rfl⟩))) v_int) (by omega)) a_nil)) ⟨_, _, rfl, by omega, rfl⟩) ?_
          generalize lawRow (lawCell ns 22) (iabs (lawCell ns 23) % 9).toNat = B at bB lB ⊢
          have lB8 : B.length ≤ 8 := by omega
          refine r_set (d := il (B ++ writeC es)) 9 gd (Nv.to (n_cat (v_var 8 rfl).lv (v_call cW (hr.mono (by decide)) (a_cons (n_listL T.list (v_var 3 rfl).lv).ev a_nil) ⟨es, rfl, by omega, fun e he => ⟨(o.ok e he).name, by have := (o.ok e he).len; omega⟩, by omega, rfl⟩).lv (by rw [List.length_map, List.length_map]; omega)) (by rw [List.map_append])).ev ?_
          have hX : B.length + (writeC es).length < 4294967296 := by omega
          have rt := open_rt (B := B) hne few o.nd o.ok hX
          have bX : bytes (B ++ writeC es) := bytes_app bB (bytes_write o.ok)
          have lX : (B ++ writeC es).length ≤ 8000 := by rw [List.length_append]; omega
          generalize B ++ writeC es = Z at rt bX lX ⊢
          have hZ : ((Z.map PyData.int).length : Int) = (Z.length : Int) := by rw [List.length_map]
          refine r_ret (d := .bool true) (Ev.to (v_eqD (d1 := ansD es (8999 - (Z.length : Int))) (d2 := ansD es (8999 - (Z.length : Int))) gd (Ev.to (v_call cO (hr.mono (by decide)) (a_cons (v_var 9 rfl) (a_cons v_int a_nil)) ⟨Z, 9000, rfl, bX, by omega, by omega, rfl⟩) (by
              rw [rt, show (9000 : Int) - (1 + (Z.length : Int)) = 8999 - (Z.length : Int) by omega]
              rfl)) (v_tup (a_cons (v_var 3 rfl) (a_cons (v_sub v_int (Ev.to (v_lenL T.len (v_var 9 rfl).lv) (by rw [hZ]))) a_nil))) (ans_plain _ _) (ans_plain _ _) (ans_depth _ _)) ?_) k
          rw [SeqAt.eqv_refl_plain _ (ans_plain _ _)]
        · exact h.elim
    refine ⟨fun pins s' I => ?_⟩
    refine thn ((R.run _ G3 H3 gr S1).go pins s' I) fun fl s2 q2 => ?_
    cases fl with
    | next =>
      obtain ⟨σ', H', I', G', es', _, _, _, m⟩ := q2
      exact m.elim
    | brk =>
      obtain ⟨σ', H', I', G', es', _, _, _, m⟩ := q2
      exact m.elim
    | cont =>
      obtain ⟨σ', H', I', G', es', _, _, _, m⟩ := q2
      exact m.elim
    | ret u => exact q2
end
end K9
namespace K9
open PySem PySem.Spec PyProof.Rows L2 Evl
/-! ### what the top has written -/
def DefIn (K : PySem.W.Frag) (x : Str) (st : Stmt) (f : Addr) : Prop := ∃ (oc : Value) (od an : Option Addr) (sl : Array (Option Value)) (kV dc pm cd ct : Value), K.lookup f = some ⟨oc, od, .func (PySem.W.fnOf x x (defArgs st) (defBody st) (defScope st) .none kV dc pm an cd ct), sl⟩ ∧ PySem.W.codeIn K cd x = true ∧ PySem.W.keepIn K (.ref f) = true
theorem DefIn.out {K : PySem.W.Frag} {x : Str} {st : Stmt} {f : Addr} (h : DefIn K x st f) : ∃ fd, Fun K x x st f fd := by
  obtain ⟨oc, od, an, sl, kV, dc, pm, cd, ct, l, c, k⟩ := h
  exact ⟨_, fun_mk l c k⟩
def TupIn (K : PySem.W.Frag) (x : Str) (ns : List Int) : Prop := ∃ (a : Addr) (ob : Obj) (its : Array Value) (n : Nat), PySem.W.nsIn K mainGlobals x = some (some (.ref a)) ∧ K.lookup a = some ob ∧ ob.cls = .type "tuple" ∧ ob.data = .seq its n ∧ its.size ≤ sizeLine ∧ Vals (ns.map V.int) its.toList
theorem TupIn.out {K : PySem.W.Frag} {h : Heap} {mg : Str → Option Value} {x : Str} {ns : List Int} (X : K.In h) (G : h.Ns mainGlobals mg) (c : TupIn K x ns) : ∃ a, mg x = some (.ref a) ∧ ∀ G, SqT K G a (ns.map V.int) := by
  obtain ⟨a, ob, its, n, e, l, h1, h2, h3, h4⟩ := c
  exact ⟨a, PySem.W.mg_of X G e, fun _ => .inr ⟨ob, its, n, l, h1, h2, h3, h4⟩⟩
def ValIn (K : PySem.W.Frag) (x : Str) (v : Nat → Value) : Prop := ∃ t, PySem.W.nsIn K mainGlobals x = some (some (v t))
theorem cal_of {P : Program} {w : World} {K : PySem.W.Frag} {mg : Str → Option Value} {base : Heap} {x : Str} {st : Stmt} {f : Addr} {k : Nat} {ps : List Str} {sp : Sp} (d : DefIn K x st f) (hm : mg x = some (.ref f)) (ok : ∀ fd, Fun K x x st f fd → FnOk P w K mg base CX0 k f fd ps sp)
    (h : ∀ (kV doc pm : Value) (an : Option Addr) (cdv ct : Value) (us : List Value), us.length = ps.length → bindArgs (PySem.W.fnOf x x (defArgs st) (defBody st) (defScope st) .none kV doc pm an cdv ct) ⟨us, []⟩ = pure (ps.zip us)) : Cal P w K mg base k x ps sp := by
  obtain ⟨fd, F⟩ := d.out
  exact cal_mk F hm (ok fd F) (F.binds h)
theorem all_mk {l : PySem.W.OpenLaw} {w : World} {K : PySem.W.Frag} {h : Heap} {mg : Str → Option Value} {fa f1 f2 f3 f4 f5 f6 f7 f8 f9 f10 f11 f12 f13 f14 f15 f16 f17 f18 f19 f20 f21 f22 f23 f24 f25 f26 : Addr} (X : K.In h) (G : h.Ns mainGlobals mg) (hfa : mg "law" = some (.ref fa))
    (a1 : PySem.W.nsIn K mainGlobals "spend" = some (some (.ref f1))) (d1 : DefIn K "spend" sSpend f1)
    (a2 : PySem.W.nsIn K mainGlobals "stands_at" = some (some (.ref f2))) (d2 : DefIn K "stands_at" sStands f2)
    (a3 : PySem.W.nsIn K mainGlobals "low_number" = some (some (.ref f3))) (d3 : DefIn K "low_number" sLow f3)
    (a4 : PySem.W.nsIn K mainGlobals "last_end" = some (some (.ref f4))) (d4 : DefIn K "last_end" sLast f4)
    (a5 : PySem.W.nsIn K mainGlobals "plain_part" = some (some (.ref f5))) (d5 : DefIn K "plain_part" sPart f5)
    (a6 : PySem.W.nsIn K mainGlobals "name_parts" = some (some (.ref f6))) (d6 : DefIn K "name_parts" sParts f6)
    (a7 : PySem.W.nsIn K mainGlobals "plain_name" = some (some (.ref f7))) (d7 : DefIn K "plain_name" sPlain f7)
    (a8 : PySem.W.nsIn K mainGlobals "to_low" = some (some (.ref f8))) (d8 : DefIn K "to_low" sToLow f8)
    (a9 : PySem.W.nsIn K mainGlobals "head_at" = some (some (.ref f9))) (d9 : DefIn K "head_at" sHead f9)
    (a10 : PySem.W.nsIn K mainGlobals "directory_entries" = some (some (.ref f10))) (d10 : DefIn K "directory_entries" sDir f10)
    (a11 : PySem.W.nsIn K mainGlobals "without_overlaps" = some (some (.ref f11))) (d11 : DefIn K "without_overlaps" sOver f11)
    (a12 : PySem.W.nsIn K mainGlobals "searched_entries" = some (some (.ref f12))) (d12 : DefIn K "searched_entries" sSearch f12)
    (a13 : PySem.W.nsIn K mainGlobals "open_crate" = some (some (.ref f13))) (d13 : DefIn K "open_crate" sOpen f13)
    (a14 : PySem.W.nsIn K mainGlobals "write_crate" = some (some (.ref f14))) (d14 : DefIn K "write_crate" sWrite f14)
    (a15 : PySem.W.nsIn K mainGlobals "_law_cell" = some (some (.ref f15))) (d15 : DefIn K "_law_cell" sCell f15)
    (a16 : PySem.W.nsIn K mainGlobals "_law_row" = some (some (.ref f16))) (d16 : DefIn K "_law_row" sRow f16)
    (a17 : PySem.W.nsIn K mainGlobals "_law_low" = some (some (.ref f17))) (d17 : DefIn K "_law_low" sLLow f17)
    (a18 : PySem.W.nsIn K mainGlobals "_law_number" = some (some (.ref f18))) (d18 : DefIn K "_law_number" sLNum f18)
    (a19 : PySem.W.nsIn K mainGlobals "_law_codes" = some (some (.ref f19))) (d19 : DefIn K "_law_codes" sCodes f19)
    (a20 : PySem.W.nsIn K mainGlobals "_law_make_head" = some (some (.ref f20))) (d20 : DefIn K "_law_make_head" sMHead f20)
    (a21 : PySem.W.nsIn K mainGlobals "_law_make_record" = some (some (.ref f21))) (d21 : DefIn K "_law_make_record" sMRec f21)
    (a22 : PySem.W.nsIn K mainGlobals "_law_make_name" = some (some (.ref f22))) (d22 : DefIn K "_law_make_name" sMName f22)
    (a23 : PySem.W.nsIn K mainGlobals "_law_crate" = some (some (.ref f23))) (d23 : DefIn K "_law_crate" sCrate f23)
    (a24 : PySem.W.nsIn K mainGlobals "_law_spoilt" = some (some (.ref f24))) (d24 : DefIn K "_law_spoilt" sSpoilt f24)
    (a25 : PySem.W.nsIn K mainGlobals "_law_stands" = some (some (.ref f25))) (d25 : DefIn K "_law_stands" sLStands f25)
    (a26 : PySem.W.nsIn K mainGlobals "law" = some (some (.ref f26))) (d26 : DefIn K "law" sLaw f26)
    (z_len : PySem.W.nsIn K mainGlobals "len" = some none)
    (z_max : PySem.W.nsIn K mainGlobals "max" = some none)
    (z_min : PySem.W.nsIn K mainGlobals "min" = some none)
    (z_abs : PySem.W.nsIn K mainGlobals "abs" = some none)
    (z_int : PySem.W.nsIn K mainGlobals "int" = some none)
    (z_ord : PySem.W.nsIn K mainGlobals "ord" = some none)
    (z_sum : PySem.W.nsIn K mainGlobals "sum" = some none)
    (z_any : PySem.W.nsIn K mainGlobals "any" = some none)
    (z_list : PySem.W.nsIn K mainGlobals "list" = some none)
    (z_tuple : PySem.W.nsIn K mainGlobals "tuple" = some none)
    (z_range : PySem.W.nsIn K mainGlobals "range" = some none)
    (z_reversed : PySem.W.nsIn K mainGlobals "reversed" = some none)
    (z_enumerate : PySem.W.nsIn K mainGlobals "enumerate" = some none)
    (z_isinstance : PySem.W.nsIn K mainGlobals "isinstance" = some none)
    (t_crate : TupIn K "CRATE_SIGN" [67, 82, 84, 49])
    (t_endS : TupIn K "END_SIGN" [67, 69, 78, 68])
    (t_recS : TupIn K "RECORD_SIGN" [67, 68, 73, 82])
    (n_endSize : ∃ t, PySem.W.nsIn K mainGlobals "END_SIZE" = some (some (.int 10 t)))
    (n_mostName : ∃ t, PySem.W.nsIn K mainGlobals "MOST_NAME" = some (some (.int 100 t)))
    (n_headSize : ∃ t, PySem.W.nsIn K mainGlobals "HEAD_SIZE" = some (some (.int 20 t)))
    (n_recSize : ∃ t, PySem.W.nsIn K mainGlobals "RECORD_SIZE" = some (some (.int 10 t)))
    (n_mostEntries : ∃ t, PySem.W.nsIn K mainGlobals "MOST_ENTRIES" = some (some (.int 64 t)))
    (n_signs : ∃ t, PySem.W.nsIn K mainGlobals "SIGNS" = some (some (.str " !\"#$?&'()*+,-./0123456789:;<=>?@abcdefghijklmnopqrstuvwxyz[\\]^_`abcdefghijklmnopqrstuvwxyz{|}~" t))) :
    ∃ fd : FuncData, (∀ (s : Shared) (v : Value), BindsTo s fd ⟨[v], []⟩ [("_law_script", v)]) ∧ ∀ base : Heap, K.In base → base.Ns mainGlobals mg → FnOk l.prog w K mg base CX0 5 fa fd ["_law_script"] (spLaw K) := by
  have e := hfa.symm.trans (PySem.W.mg_of X G a26)
  cases e
  have T : Gs K mg := {
    len := PySem.W.mg_none_of X G z_len
    max := PySem.W.mg_none_of X G z_max
    min := PySem.W.mg_none_of X G z_min
    abs := PySem.W.mg_none_of X G z_abs
    int := PySem.W.mg_none_of X G z_int
    ord := PySem.W.mg_none_of X G z_ord
    sum := PySem.W.mg_none_of X G z_sum
    any := PySem.W.mg_none_of X G z_any
    list := PySem.W.mg_none_of X G z_list
    tuple := PySem.W.mg_none_of X G z_tuple
    range := PySem.W.mg_none_of X G z_range
    reversed := PySem.W.mg_none_of X G z_reversed
    enumerate := PySem.W.mg_none_of X G z_enumerate
    isinstance := PySem.W.mg_none_of X G z_isinstance
    crate := t_crate.out X G
    endS := t_endS.out X G
    recS := t_recS.out X G
    endSize := n_endSize.elim fun t e => ⟨t, PySem.W.mg_of X G e⟩
    mostName := n_mostName.elim fun t e => ⟨t, PySem.W.mg_of X G e⟩
    headSize := n_headSize.elim fun t e => ⟨t, PySem.W.mg_of X G e⟩
    recSize := n_recSize.elim fun t e => ⟨t, PySem.W.mg_of X G e⟩
    mostEntries := n_mostEntries.elim fun t e => ⟨t, PySem.W.mg_of X G e⟩
    signs := n_signs.elim fun t e => ⟨t, PySem.W.mg_of X G e⟩ }
  obtain ⟨oc, od, an, sl, kV, dc, pm, cd, ct, lk, cc, kk⟩ := d26
  have FL := fun_mk (st := sLaw) lk cc kk
  refine ⟨PySem.W.fnOf "law" "law" (defArgs sLaw) (defBody sLaw) (defScope sLaw) .none kV dc pm an cd ct, fun s v => .of_eq rfl, fun base _ _ => ?_⟩
  have c1 := cal_of (P := l.prog) (w := w) (base := base) d1 (PySem.W.mg_of X G a1) (fun fd F => ok_spend T F) (fun _ _ _ _ _ _ us hl => match us, hl with | [_, _], _ => rfl)
  have c2 := cal_of (P := l.prog) (w := w) (base := base) d2 (PySem.W.mg_of X G a2) (fun fd F => ok_stands T F) (fun _ _ _ _ _ _ us hl => match us, hl with | [_, _, _], _ => rfl)
  have c3 := cal_of (P := l.prog) (w := w) (base := base) d3 (PySem.W.mg_of X G a3) (fun fd F => ok_low T F) (fun _ _ _ _ _ _ us hl => match us, hl with | [_], _ => rfl)
  have c5 := cal_of (P := l.prog) (w := w) (base := base) d5 (PySem.W.mg_of X G a5) (fun fd F => ok_part T F) (fun _ _ _ _ _ _ us hl => match us, hl with | [_], _ => rfl)
  have c8 := cal_of (P := l.prog) (w := w) (base := base) d8 (PySem.W.mg_of X G a8) (fun fd F => ok_toLow T F) (fun _ _ _ _ _ _ us hl => match us, hl with | [_, _], _ => rfl)
  have c11 := cal_of (P := l.prog) (w := w) (base := base) d11 (PySem.W.mg_of X G a11) (fun fd F => ok_over T F) (fun _ _ _ _ _ _ us hl => match us, hl with | [_], _ => rfl)
  have c4 := cal_of (P := l.prog) (w := w) (base := base) d4 (PySem.W.mg_of X G a4) (fun fd F => ok_last T F c2 c3) (fun _ _ _ _ _ _ us hl => match us, hl with | [_], _ => rfl)
  have c6 := cal_of (P := l.prog) (w := w) (base := base) d6 (PySem.W.mg_of X G a6) (fun fd F => ok_parts T F c5) (fun _ _ _ _ _ _ us hl => match us, hl with | [_], _ => rfl)
  have c9 := cal_of (P := l.prog) (w := w) (base := base) d9 (PySem.W.mg_of X G a9) (fun fd F => ok_head T F c2 c3) (fun _ _ _ _ _ _ us hl => match us, hl with | [_, _], _ => rfl)
  have c7 := cal_of (P := l.prog) (w := w) (base := base) d7 (PySem.W.mg_of X G a7) (fun fd F => ok_plain T F c6) (fun _ _ _ _ _ _ us hl => match us, hl with | [_], _ => rfl)
  have c10 := cal_of (P := l.prog) (w := w) (base := base) d10 (PySem.W.mg_of X G a10) (fun fd F => ok_dir T F c2 c3 c9) (fun _ _ _ _ _ _ us hl => match us, hl with | [_, _], _ => rfl)
  have c12 := cal_of (P := l.prog) (w := w) (base := base) d12 (PySem.W.mg_of X G a12) (fun fd F => ok_search T F c9) (fun _ _ _ _ _ _ us hl => match us, hl with | [_], _ => rfl)
  have c13 := cal_of (P := l.prog) (w := w) (base := base) d13 (PySem.W.mg_of X G a13) (fun fd F => ok_open T F c1 c4 c10 c11 c12 c7) (fun _ _ _ _ _ _ us hl => match us, hl with | [_, _], _ => rfl)
  have c14 := cal_of (P := l.prog) (w := w) (base := base) d14 (PySem.W.mg_of X G a14) (fun fd F => ok_write T F c8 c7) (fun _ _ _ _ _ _ us hl => match us, hl with | [_], _ => rfl)
  have c15 := cal_of (P := l.prog) (w := w) (base := base) d15 (PySem.W.mg_of X G a15) (fun fd F => ok_cell T F) (fun _ _ _ _ _ _ us hl => match us, hl with | [_, _], _ => rfl)
  have c16 := cal_of (P := l.prog) (w := w) (base := base) d16 (PySem.W.mg_of X G a16) (fun fd F => ok_row T F) (fun _ _ _ _ _ _ us hl => match us, hl with | [_, _], _ => rfl)
  have c17 := cal_of (P := l.prog) (w := w) (base := base) d17 (PySem.W.mg_of X G a17) (fun fd F => ok_llow T F) (fun _ _ _ _ _ _ us hl => match us, hl with | [_, _], _ => rfl)
  have c18 := cal_of (P := l.prog) (w := w) (base := base) d18 (PySem.W.mg_of X G a18) (fun fd F => ok_lnum T F) (fun _ _ _ _ _ _ us hl => match us, hl with | [_], _ => rfl)
  have c19 := cal_of (P := l.prog) (w := w) (base := base) d19 (PySem.W.mg_of X G a19) (fun fd F => ok_codes T F) (fun _ _ _ _ _ _ us hl => match us, hl with | [_], _ => rfl)
  have c20 := cal_of (P := l.prog) (w := w) (base := base) d20 (PySem.W.mg_of X G a20) (fun fd F => ok_mhead T F c19 c17) (fun _ _ _ _ _ _ us hl => match us, hl with | [_, _, _, _], _ => rfl)
  have c21 := cal_of (P := l.prog) (w := w) (base := base) d21 (PySem.W.mg_of X G a21) (fun fd F => ok_mrec T F c19 c17) (fun _ _ _ _ _ _ us hl => match us, hl with | [_, _], _ => rfl)
  have c22 := cal_of (P := l.prog) (w := w) (base := base) d22 (PySem.W.mg_of X G a22) (fun fd F => ok_mname T F c19) (fun _ _ _ _ _ _ us hl => match us, hl with | [_], _ => rfl)
  have c23 := cal_of (P := l.prog) (w := w) (base := base) d23 (PySem.W.mg_of X G a23) (fun fd F => ok_crate T F c15 c16 c19 c17 c20 c21 c22) (fun _ _ _ _ _ _ us hl => match us, hl with | [_], _ => rfl)
  have c24 := cal_of (P := l.prog) (w := w) (base := base) d24 (PySem.W.mg_of X G a24) (fun fd F => ok_spoilt T F) (fun _ _ _ _ _ _ us hl => match us, hl with | [_, _], _ => rfl)
  have c25 := cal_of (P := l.prog) (w := w) (base := base) d25 (PySem.W.mg_of X G a25) (fun fd F => ok_lstands T F c19 c17 c18) (fun _ _ _ _ _ _ us hl => match us, hl with | [_, _], _ => rfl)
  exact ok_law T FL c23 c24 c13 c7 c19 c25 c16 c15 c14
end K9
open PySem PySem.W PyProof.Rows
set_option maxHeartbeats 0 in
theorem PySem.Challenge.cw_stillroom_k19_whole_nothing_twice_holds : PySem.Challenge.rw_stillroom_k19_whole_nothing_twice.Holds := by
  w_on; o_law; k_head; (case hw => w_witness2)
  k_fill
  refine L2.walk_of (l := PySem.Challenge.rw_stillroom_k19_whole_nothing_twice) (n := 63) (k := 5) (x := "_law_script") (CX := fun _ => L2.CX0) (sp := fun w => K9.spLaw _) rfl (by decide) rfl ⟨rfl, by decide, by decide⟩ (fun w h Y => PySem.W.kIn_of Y) ?F (fun _ _ a ns hl hO hS => ⟨a, ns, rfl, hO, hS, hl, fun _ => rfl⟩) (fun _ _ _ _ _ h => h)
  case F =>
    intro w mg fa h KX G hmg0
    have hmg : mg ("law" : PySem.Str) = some (.ref fa) := hmg0
    clear hmg0
    refine' K9.all_mk KX G hmg ?a1 ?d1 ?a2 ?d2 ?a3 ?d3 ?a4 ?d4 ?a5 ?d5 ?a6 ?d6 ?a7 ?d7 ?a8 ?d8 ?a9 ?d9 ?a10 ?d10 ?a11 ?d11 ?a12 ?d12 ?a13 ?d13 ?a14 ?d14 ?a15 ?d15 ?a16 ?d16 ?a17 ?d17 ?a18 ?d18 ?a19 ?d19 ?a20 ?d20 ?a21 ?d21 ?a22 ?d22 ?a23 ?d23 ?a24 ?d24 ?a25 ?d25 ?a26 ?d26 ?z_len ?z_max ?z_min ?z_abs ?z_int ?z_ord ?z_sum ?z_any ?z_list ?z_tuple ?z_range ?z_reversed ?z_enumerate ?z_isinstance ?t_crate ?t_endS ?t_recS ?n_endSize ?n_mostName ?n_headSize ?n_recSize ?n_mostEntries ?n_signs
    (case a1 => k_is)
    (case d1 => refine' ⟨_, _, _, _, _, _, _, _, _, ?l, ?c, ?k⟩; (case l => refine' Eq.trans ?pp1 ?qq1; (case pp1 => k_is); (case qq1 => first | exact rfl | exact Eq.symm rfl)); (case c => k_is); (case k => k_is))
    (case a2 => k_is)
    (case d2 => refine' ⟨_, _, _, _, _, _, _, _, _, ?l, ?c, ?k⟩; (case l => refine' Eq.trans ?pp1 ?qq1; (case pp1 => k_is); (case qq1 => first | exact rfl | exact Eq.symm rfl)); (case c => k_is); (case k => k_is))
    (case a3 => k_is)
    (case d3 => refine' ⟨_, _, _, _, _, _, _, _, _, ?l, ?c, ?k⟩; (case l => refine' Eq.trans ?pp1 ?qq1; (case pp1 => k_is); (case qq1 => first | exact rfl | exact Eq.symm rfl)); (case c => k_is); (case k => k_is))
    (case a4 => k_is)
    (case d4 => refine' ⟨_, _, _, _, _, _, _, _, _, ?l, ?c, ?k⟩; (case l => refine' Eq.trans ?pp1 ?qq1; (case pp1 => k_is); (case qq1 => first | exact rfl | exact Eq.symm rfl)); (case c => k_is); (case k => k_is))
    (case a5 => k_is)
    (case d5 => refine' ⟨_, _, _, _, _, _, _, _, _, ?l, ?c, ?k⟩; (case l => refine' Eq.trans ?pp1 ?qq1; (case pp1 => k_is); (case qq1 => first | exact rfl | exact Eq.symm rfl)); (case c => k_is); (case k => k_is))
    (case a6 => k_is)
    (case d6 => refine' ⟨_, _, _, _, _, _, _, _, _, ?l, ?c, ?k⟩; (case l => refine' Eq.trans ?pp1 ?qq1; (case pp1 => k_is); (case qq1 => first | exact rfl | exact Eq.symm rfl)); (case c => k_is); (case k => k_is))
    (case a7 => k_is)
    (case d7 => refine' ⟨_, _, _, _, _, _, _, _, _, ?l, ?c, ?k⟩; (case l => refine' Eq.trans ?pp1 ?qq1; (case pp1 => k_is); (case qq1 => first | exact rfl | exact Eq.symm rfl)); (case c => k_is); (case k => k_is))
    (case a8 => k_is)
    (case d8 => refine' ⟨_, _, _, _, _, _, _, _, _, ?l, ?c, ?k⟩; (case l => refine' Eq.trans ?pp1 ?qq1; (case pp1 => k_is); (case qq1 => first | exact rfl | exact Eq.symm rfl)); (case c => k_is); (case k => k_is))
    (case a9 => k_is)
    (case d9 => refine' ⟨_, _, _, _, _, _, _, _, _, ?l, ?c, ?k⟩; (case l => refine' Eq.trans ?pp1 ?qq1; (case pp1 => k_is); (case qq1 => first | exact rfl | exact Eq.symm rfl)); (case c => k_is); (case k => k_is))
    (case a10 => k_is)
    (case d10 => refine' ⟨_, _, _, _, _, _, _, _, _, ?l, ?c, ?k⟩; (case l => refine' Eq.trans ?pp1 ?qq1; (case pp1 => k_is); (case qq1 => first | exact rfl | exact Eq.symm rfl)); (case c => k_is); (case k => k_is))
    (case a11 => k_is)
    (case d11 => refine' ⟨_, _, _, _, _, _, _, _, _, ?l, ?c, ?k⟩; (case l => refine' Eq.trans ?pp1 ?qq1; (case pp1 => k_is); (case qq1 => first | exact rfl | exact Eq.symm rfl)); (case c => k_is); (case k => k_is))
    (case a12 => k_is)
    (case d12 => refine' ⟨_, _, _, _, _, _, _, _, _, ?l, ?c, ?k⟩; (case l => refine' Eq.trans ?pp1 ?qq1; (case pp1 => k_is); (case qq1 => first | exact rfl | exact Eq.symm rfl)); (case c => k_is); (case k => k_is))
    (case a13 => k_is)
    (case d13 => refine' ⟨_, _, _, _, _, _, _, _, _, ?l, ?c, ?k⟩; (case l => refine' Eq.trans ?pp1 ?qq1; (case pp1 => k_is); (case qq1 => first | exact rfl | exact Eq.symm rfl)); (case c => k_is); (case k => k_is))
    (case a14 => k_is)
    (case d14 => refine' ⟨_, _, _, _, _, _, _, _, _, ?l, ?c, ?k⟩; (case l => refine' Eq.trans ?pp1 ?qq1; (case pp1 => k_is); (case qq1 => first | exact rfl | exact Eq.symm rfl)); (case c => k_is); (case k => k_is))
    (case a15 => k_is)
    (case d15 => refine' ⟨_, _, _, _, _, _, _, _, _, ?l, ?c, ?k⟩; (case l => refine' Eq.trans ?pp1 ?qq1; (case pp1 => k_is); (case qq1 => first | exact rfl | exact Eq.symm rfl)); (case c => k_is); (case k => k_is))
    (case a16 => k_is)
    (case d16 => refine' ⟨_, _, _, _, _, _, _, _, _, ?l, ?c, ?k⟩; (case l => refine' Eq.trans ?pp1 ?qq1; (case pp1 => k_is); (case qq1 => first | exact rfl | exact Eq.symm rfl)); (case c => k_is); (case k => k_is))
    (case a17 => k_is)
    (case d17 => refine' ⟨_, _, _, _, _, _, _, _, _, ?l, ?c, ?k⟩; (case l => refine' Eq.trans ?pp1 ?qq1; (case pp1 => k_is); (case qq1 => first | exact rfl | exact Eq.symm rfl)); (case c => k_is); (case k => k_is))
    (case a18 => k_is)
    (case d18 => refine' ⟨_, _, _, _, _, _, _, _, _, ?l, ?c, ?k⟩; (case l => refine' Eq.trans ?pp1 ?qq1; (case pp1 => k_is); (case qq1 => first | exact rfl | exact Eq.symm rfl)); (case c => k_is); (case k => k_is))
    (case a19 => k_is)
    (case d19 => refine' ⟨_, _, _, _, _, _, _, _, _, ?l, ?c, ?k⟩; (case l => refine' Eq.trans ?pp1 ?qq1; (case pp1 => k_is); (case qq1 => first | exact rfl | exact Eq.symm rfl)); (case c => k_is); (case k => k_is))
    (case a20 => k_is)
    (case d20 => refine' ⟨_, _, _, _, _, _, _, _, _, ?l, ?c, ?k⟩; (case l => refine' Eq.trans ?pp1 ?qq1; (case pp1 => k_is); (case qq1 => first | exact rfl | exact Eq.symm rfl)); (case c => k_is); (case k => k_is))
    (case a21 => k_is)
    (case d21 => refine' ⟨_, _, _, _, _, _, _, _, _, ?l, ?c, ?k⟩; (case l => refine' Eq.trans ?pp1 ?qq1; (case pp1 => k_is); (case qq1 => first | exact rfl | exact Eq.symm rfl)); (case c => k_is); (case k => k_is))
    (case a22 => k_is)
    (case d22 => refine' ⟨_, _, _, _, _, _, _, _, _, ?l, ?c, ?k⟩; (case l => refine' Eq.trans ?pp1 ?qq1; (case pp1 => k_is); (case qq1 => first | exact rfl | exact Eq.symm rfl)); (case c => k_is); (case k => k_is))
    (case a23 => k_is)
    (case d23 => refine' ⟨_, _, _, _, _, _, _, _, _, ?l, ?c, ?k⟩; (case l => refine' Eq.trans ?pp1 ?qq1; (case pp1 => k_is); (case qq1 => first | exact rfl | exact Eq.symm rfl)); (case c => k_is); (case k => k_is))
    (case a24 => k_is)
    (case d24 => refine' ⟨_, _, _, _, _, _, _, _, _, ?l, ?c, ?k⟩; (case l => refine' Eq.trans ?pp1 ?qq1; (case pp1 => k_is); (case qq1 => first | exact rfl | exact Eq.symm rfl)); (case c => k_is); (case k => k_is))
    (case a25 => k_is)
    (case d25 => refine' ⟨_, _, _, _, _, _, _, _, _, ?l, ?c, ?k⟩; (case l => refine' Eq.trans ?pp1 ?qq1; (case pp1 => k_is); (case qq1 => first | exact rfl | exact Eq.symm rfl)); (case c => k_is); (case k => k_is))
    (case a26 => k_is)
    (case d26 => refine' ⟨_, _, _, _, _, _, _, _, _, ?l, ?c, ?k⟩; (case l => refine' Eq.trans ?pp1 ?qq1; (case pp1 => k_is); (case qq1 => first | exact rfl | exact Eq.symm rfl)); (case c => k_is); (case k => k_is))
    (case z_len => k_is)
    (case z_max => k_is)
    (case z_min => k_is)
    (case z_abs => k_is)
    (case z_int => k_is)
    (case z_ord => k_is)
    (case z_sum => k_is)
    (case z_any => k_is)
    (case z_list => k_is)
    (case z_tuple => k_is)
    (case z_range => k_is)
    (case z_reversed => k_is)
    (case z_enumerate => k_is)
    (case z_isinstance => k_is)
    (case t_crate => refine' ⟨_, _, _, _, ?a, ?b, ?c, ?d, ?e, ?f⟩; (case a => refine' Eq.trans ?pp1 ?qq1; (case pp1 => k_is); (case qq1 => first | exact rfl | exact Eq.symm rfl)); (case b => refine' Eq.trans ?pp1 ?qq1; (case pp1 => k_is); (case qq1 => first | exact rfl | exact Eq.symm rfl)); (case c => exact rfl); (case d => exact rfl); (case e => decide); (case f => exact .cons ⟨_, rfl⟩ (.cons ⟨_, rfl⟩ (.cons ⟨_, rfl⟩ (.cons ⟨_, rfl⟩ .nil)))))
    (case t_endS => refine' ⟨_, _, _, _, ?a, ?b, ?c, ?d, ?e, ?f⟩; (case a => refine' Eq.trans ?pp1 ?qq1; (case pp1 => k_is); (case qq1 => first | exact rfl | exact Eq.symm rfl)); (case b => refine' Eq.trans ?pp1 ?qq1; (case pp1 => k_is); (case qq1 => first | exact rfl | exact Eq.symm rfl)); (case c => exact rfl); (case d => exact rfl); (case e => decide); (case f => exact .cons ⟨_, rfl⟩ (.cons ⟨_, rfl⟩ (.cons ⟨_, rfl⟩ (.cons ⟨_, rfl⟩ .nil)))))
    (case t_recS => refine' ⟨_, _, _, _, ?a, ?b, ?c, ?d, ?e, ?f⟩; (case a => refine' Eq.trans ?pp1 ?qq1; (case pp1 => k_is); (case qq1 => first | exact rfl | exact Eq.symm rfl)); (case b => refine' Eq.trans ?pp1 ?qq1; (case pp1 => k_is); (case qq1 => first | exact rfl | exact Eq.symm rfl)); (case c => exact rfl); (case d => exact rfl); (case e => decide); (case f => exact .cons ⟨_, rfl⟩ (.cons ⟨_, rfl⟩ (.cons ⟨_, rfl⟩ (.cons ⟨_, rfl⟩ .nil)))))
    (case n_endSize => refine' ⟨_, ?a⟩; (case a => refine' Eq.trans ?pp1 ?qq1; (case pp1 => k_is); (case qq1 => first | exact rfl | exact Eq.symm rfl)))
    (case n_mostName => refine' ⟨_, ?a⟩; (case a => refine' Eq.trans ?pp1 ?qq1; (case pp1 => k_is); (case qq1 => first | exact rfl | exact Eq.symm rfl)))
    (case n_headSize => refine' ⟨_, ?a⟩; (case a => refine' Eq.trans ?pp1 ?qq1; (case pp1 => k_is); (case qq1 => first | exact rfl | exact Eq.symm rfl)))
    (case n_recSize => refine' ⟨_, ?a⟩; (case a => refine' Eq.trans ?pp1 ?qq1; (case pp1 => k_is); (case qq1 => first | exact rfl | exact Eq.symm rfl)))
    (case n_mostEntries => refine' ⟨_, ?a⟩; (case a => refine' Eq.trans ?pp1 ?qq1; (case pp1 => k_is); (case qq1 => first | exact rfl | exact Eq.symm rfl)))
    (case n_signs => refine' ⟨_, ?a⟩; (case a => refine' Eq.trans ?pp1 ?qq1; (case pp1 => k_is); (case qq1 => first | exact rfl | exact Eq.symm rfl)))
