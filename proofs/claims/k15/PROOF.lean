import PyProof.Rows.All
import Wide.All
import OpenK.AllK
import Wide.FinOn
import HandS.ForMost
import HandS.Exc
import HandS.ExcOwn
import HandS.ExcCtx
import HandS.Walk
import HandS.WordsExc
import KE.DataIsa
import KE.DataMinMax
import KE.DataFind
import KE.SortData
import HandS.Style
import HandS.Deep
import HandS.IsInst
import HandS.HotCalls
import HandS.ExcIs
import HandS.Small
import HandS.Conv
import HandS.RaiseMore
import KE.KCallOwn
import HandS.Codes
import HandS.SlotsOwn
import HandS.SetFor
import HandS.Strs
import HandS.Replace
import PySem.Challenge.RW_runwords_k15_whole_repeated_calls
set_option Elab.async false
set_option linter.all false
set_option maxRecDepth 100000
set_option maxHeartbeats 2000000
/-! The data layer: a def is read over plain data (PyData) in its slots; lists that a def grows are its own. -/
namespace RD
open PySem L2

/-- what an owned object is -/
inductive OK where
  | lst (xs : List PyData)
  | wr (t C : Addr) (word : Str) (kept : Int)
  | dk (ks : List (Key × V))
  | dt (ks : List (List Key × V))
  | tw (t : Addr) (zs : List PyData)

/-- what a slot holds -/
inductive SD where
  | no
  | d (x : PyData)
  | own (k : OK)
  | scr (ns : List Int)
  | raw (v : V)

mutual
/-- a value over the frozen part, as data -/
inductive Dq (H : Hp) : V → PyData → Prop
  | non : Dq H .non .none
  | bl (b : Bool) : Dq H (.bl b) (.bool b)
  | int (i : Int) : Dq H (.int i) (.int i)
  | str (x : Str) : Dq H (.str x) (.str x)
  | lst {a : Addr} {xs : List V} {ds : List PyData} : H a = some (.lst xs) → DqAll H xs ds → Dq H (.ref a) (.list ds)
  | tup {a : Addr} {xs : List V} {ds : List PyData} : H a = some (.tup xs) → DqAll H xs ds → Dq H (.ref a) (.tuple ds)
inductive DqAll (H : Hp) : List V → List PyData → Prop
  | nil : DqAll H [] []
  | cons {v : V} {vs : List V} {d : PyData} {ds : List PyData} : Dq H v d → DqAll H vs ds → DqAll H (v :: vs) (d :: ds)
end
mutual
theorem dp_same {H H' : Hp} (e : Same H H') : ∀ {v : V} {d : PyData}, Dq H v d → Dq H' v d
  | _, _, .non => .non
  | _, _, .bl b => .bl b
  | _, _, .int i => .int i
  | _, _, .str x => .str x
  | _, _, .lst h a => .lst (e _ _ h) (dpAll_same e a)
  | _, _, .tup h a => .tup (e _ _ h) (dpAll_same e a)
theorem dpAll_same {H H' : Hp} (e : Same H H') : ∀ {vs : List V} {ds : List PyData}, DqAll H vs ds → DqAll H' vs ds
  | _, _, .nil => .nil
  | _, _, .cons h t => .cons (dp_same e h) (dpAll_same e t)
end
mutual
theorem dp_of {K : PySem.W.Frag} {H : Hp} : ∀ {v : V} {d : PyData}, Dq H v d → Dp K H v d
  | _, _, .non => .non
  | _, _, .bl b => .bl b
  | _, _, .int i => .int i
  | _, _, .str x => .str x
  | _, _, .lst h a => .lst (SqL.of h) (dpAll_of a)
  | _, _, .tup h a => .tup (SqT.of h) (dpAll_of a)
theorem dpAll_of {K : PySem.W.Frag} {H : Hp} : ∀ {vs : List V} {ds : List PyData}, DqAll H vs ds → DpAll K H vs ds
  | _, _, .nil => .nil
  | _, _, .cons h t => .cons (dp_of h) (dpAll_of t)
end
theorem dpAll_len {H : Hp} : ∀ {vs : List V} {ds : List PyData}, DqAll H vs ds → vs.length = ds.length
  | _, _, .nil => rfl
  | _, _, .cons _ t => congrArg (· + 1) (dpAll_len t)
theorem dpAll_get {H : Hp} : ∀ {vs : List V} {ds : List PyData} {i : Nat} {d : PyData}, DqAll H vs ds → ds[i]? = some d → ∃ v, vs[i]? = some v ∧ Dq H v d
  | _, _, _, _, .nil, e => by simp at e
  | _, _, 0, _, .cons h _, e => by
    simp at e
    subst e
    exact ⟨_, rfl, h⟩
  | _, _, i + 1, _, .cons _ t, e => by
    obtain ⟨v, h1, h2⟩ := dpAll_get (i := i) t (by simpa using e)
    exact ⟨v, by simpa using h1, h2⟩
theorem dpAll_getV {H : Hp} : ∀ {vs : List V} {ds : List PyData} {i : Nat} {v : V}, DqAll H vs ds → vs[i]? = some v → ∃ d, ds[i]? = some d ∧ Dq H v d
  | _, _, _, _, .nil, e => by simp at e
  | _, _, 0, _, .cons h _, e => by
    simp at e
    subst e
    exact ⟨_, rfl, h⟩
  | _, _, i + 1, _, .cons _ t, e => by
    obtain ⟨v, h1, h2⟩ := dpAll_getV (i := i) t (by simpa using e)
    exact ⟨v, by simpa using h1, h2⟩
theorem dpAll_app {H : Hp} : ∀ {vs ws : List V} {ds es : List PyData}, DqAll H vs ds → DqAll H ws es → DqAll H (vs ++ ws) (ds ++ es)
  | _, _, _, _, .nil, s => s
  | _, _, _, _, .cons r t, s => .cons r (dpAll_app t s)
theorem dpAll_set {H : Hp} {v : V} {d : PyData} (h : Dq H v d) : ∀ {vs : List V} {ds : List PyData} (i : Nat), DqAll H vs ds → DqAll H (vs.set i v) (ds.set i d)
  | _, _, _, .nil => .nil
  | _, _, 0, .cons _ t => .cons h t
  | _, _, i + 1, .cons r t => .cons r (dpAll_set h i t)
theorem dpAll_drop {H : Hp} : ∀ {vs : List V} {ds : List PyData} (n : Nat), DqAll H vs ds → DqAll H (vs.drop n) (ds.drop n)
  | _, _, 0, h => h
  | _, _, _ + 1, .nil => .nil
  | _, _, n + 1, .cons _ t => dpAll_drop n t
theorem dpAll_take {H : Hp} : ∀ {vs : List V} {ds : List PyData} (n : Nat), DqAll H vs ds → DqAll H (vs.take n) (ds.take n)
  | _, _, 0, _ => .nil
  | _, _, _ + 1, .nil => .nil
  | _, _, n + 1, .cons r t => .cons r (dpAll_take n t)
theorem dpAll_flat {H : Hp} {xs : List V} {ds : List PyData} (h : DqAll H xs ds) : ∀ k : Nat, DqAll H (List.replicate k xs).flatten (List.replicate k ds).flatten
  | 0 => .nil
  | k + 1 => by
    rw [List.replicate_succ, List.replicate_succ, List.flatten_cons, List.flatten_cons]
    exact dpAll_app h (dpAll_flat h k)

theorem same_new {H : Hp} {p : Addr} {o : HO} (h : H p = none) : Same H (upd H p o) := fun a u e => by
  rw [upd_ne (ne_of_none e h)]
  exact e
/-- something that may change: all but a tuple -/
def Mu (o : Option HO) : Prop := ∃ u, o = some u ∧ ∀ xs, u ≠ .tup xs
theorem Mu.no {o : Option HO} (m : Mu o) (h : o = none) : False := by
  obtain ⟨u, e, _⟩ := m
  rw [h] at e
  cases e
/-- the frozen part grows: nothing of the frame comes into it, but for tuples -/
structure Gr (F G G' : Hp) : Prop where
  g : Same G G'
  n : ∀ a, Mu (F a) → G a = none → G' a = none
theorem Gr.refl (F G : Hp) : Gr F G G := ⟨Same.refl G, fun _ _ h => h⟩
theorem Gr.trans {F G G1 G2 : Hp} (a : Gr F G G1) (b : Gr F G1 G2) : Gr F G G2 := ⟨a.g.trans b.g, fun x h1 h2 => b.n x h1 (a.n x h1 h2)⟩
theorem Gr.new {F G : Hp} {p : Addr} {o : HO} (h1 : G p = none) (h2 : F p = none) : Gr F G (upd G p o) := ⟨same_new h1, fun a h3 h4 => by
  have : a ≠ p := fun e => by
    subst e
    exact h3.no h2
  rw [upd_ne this]
  exact h4⟩
theorem Gr.frame {F F' G G' : Hp} (h : Gr F G G') (k : ∀ a, Mu (F' a) → Mu (F a)) : Gr F' G G' := ⟨h.g, fun a h1 h2 => h.n a (k a h1) h2⟩
theorem ne_none {H : Hp} {a : Addr} {o : HO} (h : H a = some o) : H a ≠ none := by
  rw [h]
  exact fun z => nomatch z
theorem same_ne {H H' : Hp} (e : Same H H') {a : Addr} (h : H a ≠ none) : H' a ≠ none := by
  cases q : H a with
  | none => exact absurd q h
  | some o => exact ne_none (e a o q)

theorem same_mu {H H' : Hp} (e : Same H H') {a : Addr} (h : Mu (H a)) : Mu (H' a) := by
  obtain ⟨u, h1, h2⟩ := h
  exact ⟨u, e a u h1, h2⟩
/-- an owned object's shape over the frozen part -/
def OwnIs (G : Hp) (p : Addr) (o : HO) : OK → Prop
  | .lst xs => ∃ vs, o = .lst vs ∧ DqAll G vs xs
  | .wr t C word kept => p = t ∧ ∃ dx, o = .ins C dx [(("letters" : Str), V.str word), (("kept" : Str), V.int kept)]
  | .dk ks => o = .dK ks
  | .dt ks => o = .dT ks
  | .tw t zs => p = t ∧ ∃ vs, o = .lst vs ∧ DqAll G vs zs
theorem OwnIs.mu {G H : Hp} {p : Addr} {o : HO} {k : OK} (h : OwnIs G p o k) (e : H p = some o) : Mu (H p) := by
  refine ⟨o, e, fun xs z => ?_⟩
  subst z
  cases k with
  | lst _ => obtain ⟨vs, h1, _⟩ := h; cases h1
  | wr _ _ _ _ => obtain ⟨_, dx, h1⟩ := h; cases h1
  | dk _ => cases h
  | dt _ => cases h
  | tw _ _ => obtain ⟨_, vs, h1, _⟩ := h; cases h1
theorem OwnIs.grow {G G' : Hp} {p : Addr} {o : HO} (e : Same G G') : ∀ {k : OK}, OwnIs G p o k → OwnIs G' p o k
  | .lst _, ⟨vs, h1, h2⟩ => ⟨vs, h1, dpAll_same e h2⟩
  | .wr .., h => h
  | .dk _, h => h
  | .dt _, h => h
  | .tw .., ⟨h0, vs, h1, h2⟩ => ⟨h0, vs, h1, dpAll_same e h2⟩

/-- what a slot says of the value that it holds -/
def SlotOk (K : PySem.W.Frag) (B G F H : Hp) (o : Option (Option V)) : SD → Prop
  | .no => True
  | .d x => ∃ v, o = some (some v) ∧ Dq G v x
  | .own k => ∃ p ob, o = some (some (V.ref p)) ∧ G p = none ∧ F p = none ∧ H p = some ob ∧ OwnIs G p ob k
  | .scr ns => ∃ a, o = some (some (V.ref a)) ∧ SqL K B a (ns.map V.int)
  | .raw v => o = some (some v)
structure Rel (K : PySem.W.Frag) (B G F : Hp) (δ : List SD) (σ : St) (H : Hp) : Prop where
  b : Same B F
  g : Same G H
  f : Same F H
  len : δ.length = σ.length
  slot : ∀ (i : Nat) (s : SD), δ[i]? = some s → SlotOk K B G F H σ[i]? s
  sep : ∀ (i j : Nat) (k l : OK) (p : Addr), i ≠ j → δ[i]? = some (SD.own k) → δ[j]? = some (SD.own l) → σ[i]? = some (some (V.ref p)) → σ[j]? = some (some (V.ref p)) → False
/-- an address that no slot (but i) owns -/
def LooseBut (δ : List SD) (σ : St) (q : Addr) (j : Nat) : Prop := ∀ (i : Nat) (k : OK), i ≠ j → δ[i]? = some (SD.own k) → σ[i]? ≠ some (some (V.ref q))
def Loose (δ : List SD) (σ : St) (q : Addr) : Prop := ∀ (i : Nat) (k : OK), δ[i]? = some (SD.own k) → σ[i]? ≠ some (some (V.ref q))
theorem Loose.but {δ : List SD} {σ : St} {q : Addr} (h : Loose δ σ q) (j : Nat) : LooseBut δ σ q j := fun i k _ e => h i k e
section
variable {K : PySem.W.Frag} {B G G' F F' : Hp} {δ : List SD} {σ : St} {H H' : Hp}
theorem Rel.dat (R : Rel K B G F δ σ H) {i : Nat} {x : PyData} (e : δ[i]? = some (SD.d x)) : ∃ v, σ[i]? = some (some v) ∧ Dq G v x := R.slot i _ e
theorem Rel.own (R : Rel K B G F δ σ H) {i : Nat} {k : OK} (e : δ[i]? = some (SD.own k)) : ∃ p o, σ[i]? = some (some (V.ref p)) ∧ G p = none ∧ F p = none ∧ H p = some o ∧ OwnIs G p o k := R.slot i _ e
theorem SlotOk.grow {o : Option (Option V)} (h : Same H H') (g : Same G G') (n : ∀ a, Mu (H a) → G a = none → G' a = none) : ∀ {s : SD}, SlotOk K B G F H o s → SlotOk K B G' F H' o s
  | .no, _ => trivial
  | .d _, ⟨v, h1, h2⟩ => ⟨v, h1, dp_same g h2⟩
  | .own _, ⟨p, ob, h1, h2, h3, h4, h5⟩ => ⟨p, ob, h1, n p (h5.mu h4) h2, h3, h _ _ h4, h5.grow g⟩
  | .scr _, z => z
  | .raw _, z => z
/-- the heap grew, the frozen part grew by new objects -/
theorem Rel.grow (R : Rel K B G F δ σ H) (h : Same H H') (g : Same G G') (gh : Same G' H') (n : ∀ a, Mu (H a) → G a = none → G' a = none) : Rel K B G' F δ σ H' :=
  ⟨R.b, gh, R.f.trans h, R.len, fun i s e => (R.slot i s e).grow h g n, R.sep⟩
theorem Rel.heap (R : Rel K B G F δ σ H) (h : Same H H') : Rel K B G F δ σ H' := R.grow h (Same.refl G) (R.g.trans h) fun _ _ z => z
theorem Rel.fresh (R : Rel K B G F δ σ H) {p : Addr} (h : H p = none) : G p = none ∧ F p = none := ⟨R.g.free h, R.f.free h⟩
/-- a new object, frozen -/
theorem Rel.new (R : Rel K B G F δ σ H) {p : Addr} {o : HO} (h : H p = none) : Rel K B (upd G p o) F δ σ (upd H p o) := by
  refine R.grow (same_new h) (same_new (R.fresh h).1) (fun a u e => ?_) (fun a h1 h2 => ?_)
  · by_cases ha : a = p
    · subst ha
      rw [upd_same] at e ⊢
      exact e
    · rw [upd_ne ha] at e ⊢
      exact R.g a u e
  · have : a ≠ p := fun e => by
      subst e
      exact h1.no h
    rw [upd_ne this]
    exact h2
theorem Rel.grNew (R : Rel K B G F δ σ H) {p : Addr} {o : HO} (h : H p = none) : Gr F G (upd G p o) := Gr.new (R.fresh h).1 (R.fresh h).2
/-- a slot set -/
theorem Rel.set (R : Rel K B G F δ σ H) {i : Nat} {s : SD} {o : Option V} (h : SlotOk K B G F H (some o) s) (hl : ∀ k q, s = .own k → o = some (.ref q) → LooseBut δ σ q i) : Rel K B G F (δ.set i s) (σ.set i o) H := by
  have at_ : ∀ {j : Nat} {u : SD}, (δ.set i s)[j]? = some u → (i = j ∧ u = s ∧ (σ.set i o)[j]? = some o) ∨ (i ≠ j ∧ δ[j]? = some u ∧ (σ.set i o)[j]? = σ[j]?) := fun {j u} e => by
    by_cases hj : i = j
    · subst hj
      by_cases hi : i < δ.length
      · rw [List.getElem?_set_self hi] at e
        cases e
        exact .inl ⟨rfl, rfl, List.getElem?_set_self (by rw [← R.len]; exact hi)⟩
      · rw [List.getElem?_eq_none_iff.mpr (by simp; omega)] at e
        cases e
    · rw [List.getElem?_set_ne hj] at e
      exact .inr ⟨hj, e, List.getElem?_set_ne hj⟩
  refine ⟨R.b, R.g, R.f, by simp [R.len], fun j u e => ?_, fun j l k1 k2 p hne e1 e2 e3 e4 => ?_⟩
  · rcases at_ e with ⟨_, rfl, q⟩ | ⟨_, e', q⟩
    · rw [q]
      exact h
    · rw [q]
      exact R.slot j u e'
  · rcases at_ e1 with ⟨j1, s1, q1⟩ | ⟨n1, e1', q1⟩
    · rcases at_ e2 with ⟨j2, s2, q2⟩ | ⟨n2, e2', q2⟩
      · exact hne (j1.symm.trans j2)
      · rw [q1] at e3
        rw [q2] at e4
        exact hl k1 p s1.symm (Option.some.inj e3) l k2 (Ne.symm n2) e2' e4
    · rcases at_ e2 with ⟨j2, s2, q2⟩ | ⟨n2, e2', q2⟩
      · rw [q1] at e3
        rw [q2] at e4
        exact hl k2 p s2.symm (Option.some.inj e4) j k1 (Ne.symm n1) e1' e3
      · rw [q1] at e3
        rw [q2] at e4
        exact R.sep j l k1 k2 p hne e1' e2' e3 e4
theorem Rel.setD (R : Rel K B G F δ σ H) {i : Nat} {v : V} {x : PyData} (h : Dq G v x) : Rel K B G F (δ.set i (.d x)) (σ.set i (some v)) H := R.set ⟨v, rfl, h⟩ fun _ _ z => nomatch z
theorem Rel.setN (R : Rel K B G F δ σ H) {i : Nat} {o : Option V} : Rel K B G F (δ.set i .no) (σ.set i o) H := R.set trivial fun _ _ z => nomatch z
theorem Rel.loose (R : Rel K B G F δ σ H) {q : Addr} (h : H q = none) : Loose δ σ q := fun i k e z => by
  obtain ⟨p, o, h1, _, _, h4, _⟩ := R.own e
  rw [h1] at z
  cases z
  rw [h] at h4
  cases h4
theorem Rel.setO (R : Rel K B G F δ σ H) {i : Nat} {q : Addr} {k : OK} {o : HO} (hg : G q = none) (hf : F q = none) (hq : H q = some o) (hk : OwnIs G q o k) (hl : Loose δ σ q) : Rel K B G F (δ.set i (.own k)) (σ.set i (some (.ref q))) H :=
  R.set ⟨q, o, rfl, hg, hf, hq, hk⟩ fun _ _ _ e => by
    cases e
    exact hl.but i
theorem set_same {α : Type} : ∀ {l : List α} {i : Nat} {x : α}, l[i]? = some x → l.set i x = l
  | [], _, _, h => by simp at h
  | y :: l, 0, x, h => by
    simp at h
    subst h
    rfl
  | y :: l, i + 1, x, h => by
    rw [List.set_cons_succ, set_same (l := l) (i := i) (by simpa using h)]
/-- an owned object changed -/
theorem Rel.mut (R : Rel K B G F δ σ H) {i : Nat} {k k' : OK} {p : Addr} {o' : HO} (e : δ[i]? = some (.own k)) (ep : σ[i]? = some (some (.ref p))) (h : OwnIs G p o' k') : Rel K B G F (δ.set i (.own k')) σ (upd H p o') := by
  obtain ⟨p0, o, h1, h2, h3, h4, h5⟩ := R.own e
  rw [ep] at h1
  cases h1
  have sm : ∀ {M : Hp}, M p = none → Same M H → Same M (upd H p o') := fun {M} hm s a u ea => by
    rw [upd_ne (ne_of_none ea hm)]
    exact s a u ea
  have hi : i < δ.length := (List.getElem?_eq_some_iff.mp e).1
  refine ⟨R.b, sm h2 R.g, sm h3 R.f, by simp [R.len], fun j u ej => ?_, fun j l k1 k2 q hne e1 e2 e3 e4 => ?_⟩
  · by_cases hj : i = j
    · subst hj
      rw [List.getElem?_set_self hi] at ej
      cases ej
      exact ⟨p, o', ep, h2, h3, upd_same, h⟩
    · rw [List.getElem?_set_ne hj] at ej
      have z := R.slot j u ej
      cases u with
      | no => trivial
      | d x => exact z
      | scr ns => exact z
      | raw v => exact z
      | own l =>
        obtain ⟨q, u, g1, g2, g3, g4, g5⟩ := z
        have : q ≠ p := fun z => by
          subst z
          exact R.sep i j k l q hj e ej ep g1
        exact ⟨q, u, g1, g2, g3, by rw [upd_ne this]; exact g4, g5⟩
  · have back : ∀ (j : Nat) (k1 : OK), (δ.set i (SD.own k'))[j]? = some (SD.own k1) → ∃ k2, δ[j]? = some (SD.own k2) := fun j k1 ej => by
      by_cases hj : i = j
      · subst hj
        exact ⟨k, e⟩
      · rw [List.getElem?_set_ne hj] at ej
        exact ⟨k1, ej⟩
    obtain ⟨k3, e5⟩ := back j k1 e1
    obtain ⟨k4, e6⟩ := back l k2 e2
    exact R.sep j l k3 k4 q hne e5 e6 e3 e4
/-- an owned list frozen: it is data from then on -/
theorem Rel.freeze (R : Rel K B G F δ σ H) {i : Nat} {xs : List PyData} (e : δ[i]? = some (.own (.lst xs))) :
    ∃ p vs, σ[i]? = some (some (.ref p)) ∧ G p = none ∧ F p = none ∧ H p = some (.lst vs) ∧ DqAll G vs xs ∧ Rel K B (upd G p (.lst vs)) F (δ.set i (.d (.list xs))) σ H := by
  obtain ⟨p, o, h1, h2, h3, h4, vs, rfl, h5⟩ := R.own e
  have hi : i < δ.length := (List.getElem?_eq_some_iff.mp e).1
  refine ⟨p, vs, h1, h2, h3, h4, h5, ⟨R.b, fun a u ea => ?_, R.f, by simp [R.len], fun j u ej => ?_, fun j l k1 k2 q hne e1 e2 e3 e4 => ?_⟩⟩
  · by_cases ha : a = p
    · subst ha
      rw [upd_same] at ea
      cases ea
      exact h4
    · rw [upd_ne ha] at ea
      exact R.g a u ea
  · by_cases hj : i = j
    · subst hj
      rw [List.getElem?_set_self hi] at ej
      cases ej
      exact ⟨_, h1, .lst upd_same (dpAll_same (same_new h2) h5)⟩
    · rw [List.getElem?_set_ne hj] at ej
      have z := R.slot j u ej
      cases u with
      | no => trivial
      | d x =>
        obtain ⟨v, g1, g2⟩ := z
        exact ⟨v, g1, dp_same (same_new h2) g2⟩
      | scr ns => exact z
      | raw v => exact z
      | own l =>
        obtain ⟨q, u, g1, g2, g3, g4, g5⟩ := z
        have : q ≠ p := fun z => by
          subst z
          exact R.sep i j _ l q hj e ej h1 g1
        exact ⟨q, u, g1, by rw [upd_ne this]; exact g2, g3, g4, g5.grow (same_new h2)⟩
  · have back : ∀ (j : Nat) (k1 : OK), (δ.set i (SD.d (.list xs)))[j]? = some (SD.own k1) → δ[j]? = some (SD.own k1) := fun j k1 ej => by
      by_cases hj : i = j
      · subst hj
        rw [List.getElem?_set_self hi] at ej
        cases ej
      · rw [List.getElem?_set_ne hj] at ej
        exact ej
    exact R.sep j l k1 k2 q hne (back j k1 e1) (back l k2 e2) e3 e4
/-- another frame -/
theorem Rel.frame (R : Rel K B G F δ σ H) (h : Same F' H) (hb : Same B F') (n : ∀ (i : Nat) (k : OK) (p : Addr), δ[i]? = some (SD.own k) → σ[i]? = some (some (V.ref p)) → F p = none → F' p = none) : Rel K B G F' δ σ H :=
  ⟨hb, R.g, h, R.len, fun i s e => by
    have z := R.slot i s e
    cases s with
    | no => trivial
    | d x => exact z
    | raw v => exact z
    | scr ns => exact z
    | own k =>
      obtain ⟨p, o, h1, h2, h3, h4, h5⟩ := z
      exact ⟨p, o, h1, h2, n i k p e h1 h3, h4, h5⟩, R.sep⟩
end

/-! ### the data readings -/
abbrev DS := List SD
abbrev XC := Value → DS → Prop
abbrev WE := DS → (PyData → DS → Prop) → XC → Prop
abbrev WT := DS → (Bool → DS → Prop) → XC → Prop
abbrev WA := DS → (List PyData → DS → Prop) → XC → Prop
abbrev WN := DS → (OK → DS → Prop) → XC → Prop
structure WEnds where
  nx : DS → Prop
  rt : PyData → DS → Prop
  bk : DS → Prop
  ct : DS → Prop
  ex : XC
abbrev WS := DS → WEnds → Prop

/-- the wish of an exception -/
abbrev xL (K : PySem.W.Frag) (W : WX) (B F G : Hp) (σ : St) : XC := fun c δ' => ∀ G' H', Gr F G G' → Rel K B G' F δ' σ H' → W c none σ H'
def tD (K : PySem.W.Frag) (W : WX) (w : WE) : TE := fun σ H Q => ∃ B G F δ, Rel K B G F δ σ H ∧ w δ (fun x δ' => ∀ G' H' v, Gr F G G' → Rel K B G' F δ' σ H' → Dq G' v x → Q v H') (xL K W B F G σ)
def tDT (K : PySem.W.Frag) (W : WX) (w : WT) : TT := fun σ H Q => ∃ B G F δ, Rel K B G F δ σ H ∧ w δ (fun b δ' => ∀ G' H', Gr F G G' → Rel K B G' F δ' σ H' → Q b H') (xL K W B F G σ)
def tDA (K : PySem.W.Frag) (W : WX) (w : WA) : TA := fun σ H Q => ∃ B G F δ, Rel K B G F δ σ H ∧ w δ (fun xs δ' => ∀ G' H' vs, Gr F G G' → Rel K B G' F δ' σ H' → DqAll G' vs xs → Q vs H') (xL K W B F G σ)
def tDN (K : PySem.W.Frag) (W : WX) (w : WN) : TE := fun σ H Q => ∃ B G F δ, Rel K B G F δ σ H ∧ w δ (fun k δ' => ∀ G' H' q o, Gr F G G' → Rel K B G' F δ' σ H' → G' q = none → F q = none → Loose δ' σ q → H' q = some o → OwnIs G' q o k → Q (.ref q) H') (xL K W B F G σ)
/-- the ends of a statement, by data -/
abbrev dEnds (K : PySem.W.Frag) (W : WX) (B F G : Hp) (D : Ends) : WEnds :=
  { nx := fun δ' => ∀ G' σ' H', Gr F G G' → Rel K B G' F δ' σ' H' → D.nx σ' H'
    rt := fun x δ' => ∀ G' σ' H' v, Gr F G G' → Rel K B G' F δ' σ' H' → Dq G' v x → D.rt v H'
    bk := fun δ' => ∀ G' σ' H', Gr F G G' → Rel K B G' F δ' σ' H' → D.bk σ' H'
    ct := fun δ' => ∀ G' σ' H', Gr F G G' → Rel K B G' F δ' σ' H' → D.ct σ' H'
    ex := fun c δ' => ∀ G' σ' H', Gr F G G' → Rel K B G' F δ' σ' H' → W c none σ' H' }
def tDS (K : PySem.W.Frag) (W : WX) (w : WS) : TS := fun D σ H => ∃ B G F δ, Rel K B G F δ σ H ∧ w δ (dEnds K W B F G D)

def MonoE {α : Type} (w : DS → (α → DS → Prop) → XC → Prop) : Prop := ∀ δ Q Q' E E', (∀ x δ', Q x δ' → Q' x δ') → (∀ c δ', E c δ' → E' c δ') → w δ Q E → w δ Q' E'
structure WEnds.Le (D D' : WEnds) : Prop where
  nx : ∀ δ, D.nx δ → D'.nx δ
  rt : ∀ x δ, D.rt x δ → D'.rt x δ
  bk : ∀ δ, D.bk δ → D'.bk δ
  ct : ∀ δ, D.ct δ → D'.ct δ
  ex : ∀ c δ, D.ex c δ → D'.ex c δ
def MonoS (w : WS) : Prop := ∀ δ D D', D.Le D' → w δ D → w δ D'

structure DE (X : Cx) (W : WX) (e : Expr) (w : WE) : Prop where
  pe : PE X e (tD X.K W w)
  mono : MonoE w
structure DT (X : Cx) (W : WX) (e : Expr) (w : WT) : Prop where
  pt : PT X e (tDT X.K W w)
  mono : MonoE w
structure DW (X : Cx) (W : WX) (e : Expr) (w : WT) : Prop where
  pw : PW X e (tDT X.K W w)
  mono : MonoE w
structure DA (X : Cx) (W : WX) (es : List Expr) (w : WA) : Prop where
  pa : PA X es (tDA X.K W w)
  mono : MonoE w
structure DN (X : Cx) (W : WX) (e : Expr) (w : WN) : Prop where
  pe : PE X e (tDN X.K W w)
  mono : MonoE w
structure DSt (X : Cx) (W : WX) (s : Stmt) (w : WS) : Prop where
  ps : PS X s (tDS X.K W w)
  mono : MonoS w
structure DSs (X : Cx) (W : WX) (s : List Stmt) (w : WS) : Prop where
  ps : PSs X s (tDS X.K W w)
  mono : MonoS w

theorem pe_imp {X : Cx} {e : Expr} {t t' : TE} (h : PE X e t) (i : ∀ σ H Q, t' σ H Q → t σ H Q) : PE X e t' := ⟨fun pins s σ H Q I q => h.run pins s σ H Q I (i σ H Q q)⟩
theorem pt_imp {X : Cx} {e : Expr} {t t' : TT} (h : PT X e t) (i : ∀ σ H Q, t' σ H Q → t σ H Q) : PT X e t' := ⟨fun pins s σ H Q I q => h.run pins s σ H Q I (i σ H Q q)⟩
theorem pw_imp {X : Cx} {e : Expr} {t t' : TT} (h : PW X e t) (i : ∀ σ H Q, t' σ H Q → t σ H Q) : PW X e t' := ⟨fun whole pins s σ H Q I q => h.run whole pins s σ H Q I (i σ H Q q)⟩
theorem pa_imp {X : Cx} {es : List Expr} {t t' : TA} (h : PA X es t) (i : ∀ σ H Q, t' σ H Q → t σ H Q) : PA X es t' := ⟨fun pos pins s σ H Q I q => h.run pos pins s σ H Q I (i σ H Q q)⟩
theorem ps_imp {X : Cx} {e : Stmt} {t t' : TS} (h : PS X e t) (i : ∀ D σ H, t' D σ H → t D σ H) : PS X e t' := ⟨fun pins s σ H D I q => h.run pins s σ H D I (i D σ H q)⟩
theorem pss_imp {X : Cx} {e : List Stmt} {t t' : TS} (h : PSs X e t) (i : ∀ D σ H, t' D σ H → t D σ H) : PSs X e t' := ⟨fun pins s σ H D I q => h.run pins s σ H D I (i D σ H q)⟩
/-- a reading taken up with a grown frozen part -/
theorem xL_up {K : PySem.W.Frag} {W : WX} {B F G G1 : Hp} {σ : St} (g : Gr F G G1) (c : Value) (δ : DS) (h : xL K W B F G σ c δ) : xL K W B F G1 σ c δ := fun G' H' g' R => h G' H' (g.trans g') R
/-- growth of the heap and its frozen part together -/
structure Gw (G H G' H' : Hp) : Prop where
  h : Same H H'
  g : Same G G'
  gh : Same G' H'
  n : ∀ a, Mu (H a) → G a = none → G' a = none
theorem Gw.refl {G H : Hp} (s : Same G H) : Gw G H G H := ⟨Same.refl H, Same.refl G, s, fun _ _ z => z⟩
theorem Gw.gr {F G H G' H' : Hp} (w : Gw G H G' H') (f : Same F H) : Gr F G G' := ⟨w.g, fun a h1 h2 => w.n a (same_mu f h1) h2⟩
theorem Gw.new {G H : Hp} (s : Same G H) {p : Addr} {o : HO} (h : H p = none) : Gw G H (upd G p o) (upd H p o) := by
  refine ⟨same_new h, same_new (s.free h), fun a u e => ?_, fun a h1 h2 => ?_⟩
  · by_cases ha : a = p
    · subst ha
      rw [upd_same] at e ⊢
      exact e
    · rw [upd_ne ha] at e ⊢
      exact s a u e
  · have : a ≠ p := fun e => by
      subst e
      exact h1.no h
    rw [upd_ne this]
    exact h2
/-- the heap alone grew -/
theorem Gw.heap {G H H' : Hp} (s : Same G H) (h : Same H H') : Gw G H G H' := ⟨h, Same.refl G, s.trans h, fun _ _ z => z⟩
theorem Gw.trans {G H G1 H1 G2 H2 : Hp} (a : Gw G H G1 H1) (b : Gw G1 H1 G2 H2) : Gw G H G2 H2 := ⟨a.h.trans b.h, a.g.trans b.g, b.gh, fun x h1 h2 => b.n x (same_mu a.h h1) (a.n x h1 h2)⟩
theorem Rel.gw {K : PySem.W.Frag} {B G F G' : Hp} {δ : List SD} {σ : St} {H H' : Hp} (R : Rel K B G F δ σ H) (w : Gw G H G' H') : Rel K B G' F δ σ H' := R.grow w.h w.g w.gh w.n
/-- Q of every value that is this data, the heap grown -/
def Gives (G H : Hp) (d : PyData) (Q : VK) : Prop := ∀ G' H' v, Gw G H G' H' → Dq G' v d → Q v H'
/-- a two-place operation, a call, on data -/
def OpD (r : R2) (f : PyData → PyData → Option PyData) : Prop := ∀ G H x y dx dy d Q, Same G H → Dq G x dx → Dq G y dy → f dx dy = some d → Gives G H d Q → r x y H Q
def CallD (r : List V → Hp → VK → Prop) (f : List PyData → Option PyData) : Prop := ∀ G H vs ds d Q, Same G H → DqAll G vs ds → f ds = some d → Gives G H d Q → r vs H Q
end RD

/-! The data layer, part b: expressions. -/
namespace RD
open PySem L2
section
variable {X : Cx} {W : WX} {a b c e : Expr} {pos : Pos} {wa wb wc : WE}

/-! ### names, constants -/
def wVar (i : Nat) : WE := fun δ Q _ => match δ[i]? with
  | some (.d x) => Q x δ
  | some (.own (.lst xs)) => Q (.list xs) (δ.set i (.d (.list xs)))
  | _ => False
def wC (x : PyData) : WE := fun δ Q _ => Q x δ
theorem wVar_mono (i : Nat) : MonoE (wVar i) := fun δ Q Q' E E' hq _ h => by
  unfold wVar at h ⊢
  split at h <;> first | exact hq _ _ h | exact h.elim
theorem wC_mono (x : PyData) : MonoE (wC x) := fun _ _ _ _ _ hq _ h => hq _ _ h
theorem de_var (i : Nat) (h : PE X e (tVar i)) : DE X W e (wVar i) := by
  refine ⟨pe_imp h fun σ H Q hh => ?_, wVar_mono i⟩
  obtain ⟨B, G, F, δ, R, h⟩ := hh
  unfold wVar at h
  split at h
  · rename_i x ex
    obtain ⟨v, h1, h2⟩ := R.dat ex
    exact ⟨v, h1, h G H v (Gr.refl F G) R h2⟩
  · rename_i xs ex
    obtain ⟨p, vs, h1, h2, h3, h4, h5, R'⟩ := R.freeze ex
    exact ⟨_, h1, h _ H _ (Gr.new h2 h3) R' (.lst upd_same (dpAll_same (same_new h2) h5))⟩
  · exact h.elim
theorem de_c {v : V} {x : PyData} (h : PE X e (tC v)) (hv : ∀ G, Dq G v x) : DE X W e (wC x) := by
  refine ⟨pe_imp h fun σ H Q hh => ?_, wC_mono x⟩
  obtain ⟨B, G, F, δ, R, h⟩ := hh
  exact h G H v (Gr.refl F G) R (hv G)
theorem de_int {i j} : DE X W (.Constant (.int i) j pos) (wC (.int i)) := de_c pe_int fun _ => .int i
theorem de_bl {b j} : DE X W (.Constant (.bool b) j pos) (wC (.bool b)) := de_c pe_bl fun _ => .bl b
theorem de_non {j} : DE X W (.Constant .none j pos) (wC .none) := de_c pe_non fun _ => .non
theorem de_str {x j} : DE X W (.Constant (.str x) j pos) (wC (.str x)) := de_c pe_str fun _ => .str x

/-! ### two-place operations -/
def wOp (f : PyData → PyData → Option PyData) (wa wb : WE) : WE := fun δ Q E => wa δ (fun x δ1 => wb δ1 (fun y δ2 => ∃ z, f x y = some z ∧ Q z δ2) E) E
theorem wOp_mono {f : PyData → PyData → Option PyData} (ha : MonoE wa) (hb : MonoE wb) : MonoE (wOp f wa wb) := fun δ Q Q' E E' hq he h =>
  ha _ _ _ _ _ (fun x δ1 h1 => hb _ _ _ _ _ (fun y δ2 ⟨z, h2, h3⟩ => ⟨z, h2, hq _ _ h3⟩) he h1) he h
theorem tOp_of {r : R2} {f : PyData → PyData → Option PyData} (hd : OpD r f) (ma : MonoE wa) (mb : MonoE wb) (σ : St) (H : Hp) (Q : VK) (hh : tD X.K W (wOp f wa wb) σ H Q) : tOp r (tD X.K W wa) (tD X.K W wb) σ H Q := by
  obtain ⟨B, G, F, δ, R, h⟩ := hh
  refine ⟨B, G, F, δ, R, ma _ _ _ _ _ (fun x δ1 h1 => ?_) (fun _ _ z => z) h⟩
  intro G1 H1 v1 g1 R1 d1
  refine ⟨B, G1, F, δ1, R1, mb _ _ _ _ _ (fun y δ2 h2 => ?_) (xL_up g1) h1⟩
  intro G2 H2 v2 g2 R2 d2
  obtain ⟨z, hz, hq⟩ := h2
  refine hd G2 H2 v1 v2 x y z Q R2.g (dp_same g2.g d1) d2 hz fun G3 H3 v3 w3 d3 => ?_
  exact hq G3 H3 v3 (g1.trans (g2.trans (w3.gr R2.f))) (R2.gw w3) d3
theorem de_op {op : Operator} {r : R2} {f : PyData → PyData → Option PyData} (ho : OpR X (binaryOp op) r) (hd : OpD r f) (ha : DE X W a wa) (hb : DE X W b wb) : DE X W (.BinOp a op b pos) (wOp f wa wb) :=
  ⟨pe_imp (pe_op ho ha.pe hb.pe) (tOp_of hd ha.mono hb.mono), wOp_mono ha.mono hb.mono⟩
theorem de_cmpR {op : CmpOp} {r : R2} {f : PyData → PyData → Option PyData} (ho : OpR X (compareOp op) r) (hd : OpD r f) (ha : DE X W a wa) (hb : DE X W b wb) (hm : behindInMarks op b = false) : DE X W (.Compare a [op] [b] pos) (wOp f wa wb) :=
  ⟨pe_imp (pe_cmpR ho ha.pe hb.pe hm) (tOp_of hd ha.mono hb.mono), wOp_mono ha.mono hb.mono⟩
theorem gives_val {G H : Hp} {v : V} {d : PyData} {Q : VK} (s : Same G H) (h : Gives G H d Q) (hv : Dq G v d) : Q v H := h G H v (Gw.refl s) hv
theorem gives_new {G H : Hp} {o : HO} {d : PyData} {Q : VK} (s : Same G H) (h : Gives G H d Q) (p : Addr) (hp : H p = none) (hv : Dq (upd G p o) (.ref p) d) : Q (.ref p) (upd H p o) := h _ _ _ (Gw.new s hp) hv

def addD : PyData → PyData → Option PyData
  | .int i, .int j => some (.int (i + j))
  | .str x, .str y => if x.length + y.length ≤ sizeLine then some (.str (x ++ y)) else none
  | .list xs, .list ys => if xs.length + ys.length ≤ sizeLine then some (.list (xs ++ ys)) else none
  | _, _ => none
abbrev rAddA : R2 := fun x y H Q => (rI0 (fun i j => .int (i + j)) x y H Q) ∨ ((fun x y H Q => ∃ i j, x = V.str i ∧ y = V.str j ∧ i.length + j.length ≤ sizeLine ∧ Q (V.str (i ++ j)) H) x y H Q ∨ rCat x y H Q)
theorem op_addA : OpR X (binaryOp .Add) rAddA := op_add.or (op_add_str.or op_cat)
theorem opD_add : OpD rAddA addD := by
  intro G H x y dx dy d Q s hx hy hf hg
  cases hx <;> cases hy <;> simp only [addD, reduceCtorEq] at hf
  · cases hf
    exact .inl ⟨_, _, rfl, rfl, gives_val s hg (.int _)⟩
  · split at hf
    · rename_i hl
      cases hf
      exact .inr (.inl ⟨_, _, rfl, rfl, hl, gives_val s hg (.str _)⟩)
    · cases hf
  · rename_i a xs ds h1 h2 a' xs' ds' h3 h4
    split at hf
    · rename_i hl
      cases hf
      refine .inr (.inr ⟨_, _, _, _, rfl, rfl, s _ _ h1, s _ _ h3, by rw [dpAll_len h2, dpAll_len h4]; exact hl, fun p hp => ?_⟩)
      refine gives_new s hg p hp ?_
      have n := s.free hp
      exact .lst upd_same (dpAll_app (dpAll_same (same_new n) h2) (dpAll_same (same_new n) h4))
    · cases hf
theorem de_add (ha : DE X W a wa) (hb : DE X W b wb) : DE X W (.BinOp a .Add b pos) (wOp addD wa wb) := de_op op_addA opD_add ha hb

def subD : PyData → PyData → Option PyData
  | .int i, .int j => some (.int (i - j))
  | _, _ => none
theorem opD_sub : OpD (rI0 fun i j => .int (i - j)) subD := by
  intro G H x y dx dy d Q s hx hy hf hg
  cases hx <;> cases hy <;> simp only [subD, reduceCtorEq] at hf
  cases hf
  exact ⟨_, _, rfl, rfl, gives_val s hg (.int _)⟩
theorem de_sub (ha : DE X W a wa) (hb : DE X W b wb) : DE X W (.BinOp a .Sub b pos) (wOp subD wa wb) := de_op op_sub opD_sub ha hb

instance (i j : Int) : Decidable (CMul i j) := by unfold CMul; exact inferInstance
instance (i j : Int) : Decidable (CPow i j) := by unfold CPow; exact inferInstance
def fdivD : PyData → PyData → Option PyData
  | .int i, .int j => if 0 < j ∧ j < 1073741824 then some (.int (i / j)) else none
  | _, _ => none
theorem opD_fdiv : OpD (rI CDiv fun i j => .int (i / j)) fdivD := by
  intro G H x y dx dy d Q s hx hy hf hg
  cases hx <;> cases hy <;> simp only [fdivD, reduceCtorEq] at hf
  split at hf
  · rename_i h
    cases hf
    exact ⟨_, _, rfl, rfl, h, gives_val s hg (.int _)⟩
  · cases hf
theorem de_fdiv (ha : DE X W a wa) (hb : DE X W b wb) : DE X W (.BinOp a .FloorDiv b pos) (wOp fdivD wa wb) := de_op op_fdiv opD_fdiv ha hb
def modD : PyData → PyData → Option PyData
  | .int i, .int j => if 0 < j then some (.int (i % j)) else none
  | _, _ => none
theorem opD_mod : OpD (rI (fun _ j => 0 < j) fun i j => .int (i % j)) modD := by
  intro G H x y dx dy d Q s hx hy hf hg
  cases hx <;> cases hy <;> simp only [modD, reduceCtorEq] at hf
  split at hf
  · rename_i h
    cases hf
    exact ⟨_, _, rfl, rfl, h, gives_val s hg (.int _)⟩
  · cases hf
theorem de_mod (ha : DE X W a wa) (hb : DE X W b wb) : DE X W (.BinOp a .Mod b pos) (wOp modD wa wb) := de_op op_mod opD_mod ha hb
def powD : PyData → PyData → Option PyData
  | .int i, .int j => if CPow i j then some (.int (i ^ j.toNat)) else none
  | _, _ => none
theorem opD_pow : OpD (rI CPow fun i j => .int (i ^ j.toNat)) powD := by
  intro G H x y dx dy d Q s hx hy hf hg
  cases hx <;> cases hy <;> simp only [powD, reduceCtorEq] at hf
  split at hf
  · rename_i h
    cases hf
    exact ⟨_, _, rfl, rfl, h, gives_val s hg (.int _)⟩
  · cases hf
theorem de_pow (ha : DE X W a wa) (hb : DE X W b wb) : DE X W (.BinOp a .Pow b pos) (wOp powD wa wb) := de_op op_pow opD_pow ha hb
/-- a text times an int -/
def repS (x : Str) (k : Int) : Str := ⟨(List.replicate k.toNat x.cps.toList).flatten.toArray⟩
def mulD : PyData → PyData → Option PyData
  | .int i, .int j => if CMul i j then some (.int (i * j)) else none
  | .list xs, .int k => if -(2 ^ 63) ≤ k ∧ k < 2 ^ 63 ∧ xs.length * k.toNat ≤ sizeLine then some (.list (List.replicate k.toNat xs).flatten) else none
  | .str z, .int k => if 0 ≤ k ∧ k ≤ 1000 ∧ z.length ≤ 1000 then some (.str (repS z k)) else none
  | _, _ => none
def rRepS : R2 := fun x y H Q => ∃ (z : Str) (k : Int), x = .str z ∧ y = .int k ∧ 0 ≤ k ∧ k ≤ 1000 ∧ z.length ≤ 1000 ∧ Q (.str (repS z k)) H
theorem fold_app : ∀ (l : List (Array Nat)) (a : Array Nat), (l.foldl (· ++ ·) a).toList = a.toList ++ (l.map (·.toList)).flatten
  | [], a => by simp
  | x :: l, a => by
    rw [List.foldl_cons, fold_app l]
    simp
theorem repS_fold (z : Str) (k : Int) : (⟨(List.replicate k.toNat z.cps).foldl (· ++ ·) #[]⟩ : Str) = repS z k := by
  unfold repS
  have h := fold_app (List.replicate k.toNat z.cps) #[]
  congr 1
  apply Array.toList_inj.mp
  rw [h]
  simp
theorem op_repS : OpR X (binaryOp .Mult) rRepS := by
  intro pins s σ H x y v u Q I rx ry h
  obtain ⟨z, k, rfl, rfl, h0, h1, h2, q⟩ := h
  obtain ⟨t, rfl⟩ := rx
  obtain ⟨t', rfl⟩ := ry
  refine P.mul_str ?_ (fun _ _ => ?_) (fun _ _ => ?_) ?_
  · rw [decide_eq_false (by omega), decide_eq_false (by omega)]
    rfl
  · have h3 : k ≤ 9223372036854775807 := by omega
    have h4 : (1000 : Int) ≤ (2 ^ 63 - 1) / k := Int.le_ediv_of_mul_le (by omega) (by omega)
    omega
  · refine decide_eq_false ?_
    have : z.length * k.toNat ≤ 1000 * 1000 := Nat.mul_le_mul h2 (by omega)
    have hs := sizeLine_eq
    omega
  · by_cases hk : k < 1
    · rw [if_pos hk]
      have : k = 0 := by omega
      subst this
      exact ⟨by decide, ⟨.str _, H, I.tok _, ⟨_, rfl⟩, q⟩⟩
    · rw [if_neg hk]
      by_cases h3 : (k == 1 || z.length == 0) = true
      · rw [if_pos h3]
        have e : repS z k = z := by
          obtain ⟨c⟩ := z
          unfold repS
          rw [Bool.or_eq_true] at h3
          rcases h3 with h3 | h3
          · have : k = 1 := by simpa using h3
            subst this
            simp
          · have : c = #[] := by simpa [Str.length] using h3
            subst this
            simp
        rw [e] at q
        exact ⟨.str _, H, I, ⟨_, rfl⟩, q⟩
      · rw [if_neg h3, repS_fold]
        refine ⟨?_, ⟨.str _, H, I.tok _, ⟨_, rfl⟩, q⟩⟩
        have : (repS z k).length = z.length * k.toNat := by
          simp [repS, Str.length, Nat.mul_comm]
        rw [this]
        have : z.length * k.toNat ≤ 1000 * 1000 := Nat.mul_le_mul h2 (by omega)
        have hs := sizeLine_eq
        omega
abbrev rMulA : R2 := fun x y H Q => (rI CMul fun i j => V.int (i * j)) x y H Q ∨ rRep x y H Q ∨ rRepS x y H Q
theorem op_mulA : OpR X (binaryOp .Mult) rMulA := op_mul.or (op_rep.or op_repS)
theorem opD_mul : OpD rMulA mulD := by
  intro G H x y dx dy d Q s hx hy hf hg
  cases hx <;> cases hy <;> simp only [mulD, reduceCtorEq] at hf
  · split at hf
    · rename_i h
      cases hf
      exact .inl ⟨_, _, rfl, rfl, h, gives_val s hg (.int _)⟩
    · cases hf
  · split at hf
    · rename_i h
      cases hf
      exact .inr (.inr ⟨_, _, rfl, rfl, h.1, h.2.1, h.2.2, gives_val s hg (.str _)⟩)
    · cases hf
  · rename_i a xs ds h1 h2 i
    split at hf
    · rename_i h
      cases hf
      refine .inr (.inl ⟨_, _, _, rfl, rfl, s _ _ h1, h.1, h.2.1, by rw [dpAll_len h2]; exact h.2.2, fun p hp => ?_⟩)
      exact gives_new s hg p hp (.lst upd_same (dpAll_flat (dpAll_same (same_new (s.free hp)) h2) _))
    · cases hf
theorem de_mul (ha : DE X W a wa) (hb : DE X W b wb) : DE X W (.BinOp a .Mult b pos) (wOp mulD wa wb) := de_op op_mulA opD_mul ha hb

/-! ### comparisons -/
def cmpI (p : Int → Int → Bool) : PyData → PyData → Option PyData
  | .int i, .int j => some (.bool (p i j))
  | _, _ => none
theorem opD_cmpI (p : Int → Int → Bool) : OpD (rI0 fun i j => .bl (p i j)) (cmpI p) := by
  intro G H x y dx dy d Q s hx hy hf hg
  cases hx <;> cases hy <;> simp only [cmpI, reduceCtorEq] at hf
  cases hf
  exact ⟨_, _, rfl, rfl, gives_val s hg (.bl _)⟩
abbrev ltD := cmpI fun i j => decide (i < j)
abbrev leD := cmpI fun i j => decide (i ≤ j)
abbrev gtD := cmpI fun i j => decide (j < i)
abbrev geD := cmpI fun i j => decide (j ≤ i)
theorem de_lt (ha : DE X W a wa) (hb : DE X W b wb) : DE X W (.Compare a [.Lt] [b] pos) (wOp ltD wa wb) := de_cmpR op_lt (opD_cmpI _) ha hb (nomark _)
theorem de_le (ha : DE X W a wa) (hb : DE X W b wb) : DE X W (.Compare a [.LtE] [b] pos) (wOp leD wa wb) := de_cmpR op_le (opD_cmpI _) ha hb (nomark _)
theorem de_gt (ha : DE X W a wa) (hb : DE X W b wb) : DE X W (.Compare a [.Gt] [b] pos) (wOp gtD wa wb) := de_cmpR op_gt (opD_cmpI _) ha hb (nomark _)
theorem de_ge (ha : DE X W a wa) (hb : DE X W b wb) : DE X W (.Compare a [.GtE] [b] pos) (wOp geD wa wb) := de_cmpR op_ge (opD_cmpI _) ha hb (nomark _)
/-- texts are compared whatever their signs; all else by its shape -/
def eqOk : PyData → PyData → Bool
  | .str _, .str _ => true
  | x, y => SeqAt.shaped x && SeqAt.shaped y
def eqD (x y : PyData) : Option PyData := if eqOk x y = true then some (.bool (PyData.eqv x y)) else none
def neD (x y : PyData) : Option PyData := if eqOk x y = true then some (.bool (!PyData.eqv x y)) else none
abbrev rEqA (K : PySem.W.Frag) : R2 := fun x y H Q => rEq x y H Q ∨ rEqD K x y H Q
abbrev rNeA (K : PySem.W.Frag) : R2 := fun x y H Q => rNe x y H Q ∨ rNeD K x y H Q
theorem eqOk_cases {x y : PyData} (h : eqOk x y = true) : (∃ a b, x = .str a ∧ y = .str b) ∨ (SeqAt.shaped x = true ∧ SeqAt.shaped y = true) := by
  unfold eqOk at h
  split at h
  · exact .inl ⟨_, _, rfl, rfl⟩
  · exact .inr (by simpa using h)
theorem opD_eq {K : PySem.W.Frag} : OpD (rEqA K) eqD := by
  intro G H x y dx dy d Q s hx hy hf hg
  unfold eqD at hf
  split at hf
  · rename_i h
    cases hf
    rcases eqOk_cases h with ⟨a, b, rfl, rfl⟩ | ⟨h1, h2⟩
    · cases hx
      cases hy
      refine .inl ⟨rfl, ?_⟩
      have e : decide (V.str a = V.str b) = PyData.eqv (.str a) (.str b) := dec_str
      rw [e]
      exact gives_val s hg (.bl _)
    · exact .inr ⟨_, _, dp_of (dp_same s hx), dp_of (dp_same s hy), h1, h2, gives_val s hg (.bl _)⟩
  · cases hf
theorem opD_ne {K : PySem.W.Frag} : OpD (rNeA K) neD := by
  intro G H x y dx dy d Q s hx hy hf hg
  unfold neD at hf
  split at hf
  · rename_i h
    cases hf
    rcases eqOk_cases h with ⟨a, b, rfl, rfl⟩ | ⟨h1, h2⟩
    · cases hx
      cases hy
      refine .inl ⟨rfl, ?_⟩
      have e : decide (V.str a = V.str b) = PyData.eqv (.str a) (.str b) := dec_str
      rw [e]
      exact gives_val s hg (.bl _)
    · exact .inr ⟨_, _, dp_of (dp_same s hx), dp_of (dp_same s hy), h1, h2, gives_val s hg (.bl _)⟩
  · cases hf
theorem de_eq {k : Nat} (hr : Room k X.A) (ha : DE X W a wa) (hb : DE X W b wb) : DE X W (.Compare a [.Eq] [b] pos) (wOp eqD wa wb) := de_cmpR (op_eq.or (op_eqD hr.units)) opD_eq ha hb (nomark _)
theorem de_ne {k : Nat} (hr : Room k X.A) (ha : DE X W a wa) (hb : DE X W b wb) : DE X W (.Compare a [.NotEq] [b] pos) (wOp neD wa wb) := de_cmpR (op_ne.or (op_neD hr.units)) opD_ne ha hb (nomark _)
/-- in, not in -/
def inD : PyData → PyData → Option PyData
  | .str x, .str y => some (.bool (!(Builtin.Str.occurrences y x 0 y.length 1).isEmpty))
  | d, .list ds => if SeqAt.shaped d = true ∧ SeqAt.shaped (.list ds) = true then some (.bool (ds.any fun z => PyData.eqv z d)) else none
  | _, _ => none
def notInD : PyData → PyData → Option PyData
  | .str x, .str y => some (.bool (!(!(Builtin.Str.occurrences y x 0 y.length 1).isEmpty)))
  | d, .list ds => if SeqAt.shaped d = true ∧ SeqAt.shaped (.list ds) = true then some (.bool (!ds.any fun z => PyData.eqv z d)) else none
  | _, _ => none
abbrev rInS : R2 := fun x y H Q => ∃ i j, x = .str i ∧ y = .str j ∧ Q (.bl (!(Builtin.Str.occurrences j i 0 j.length 1).isEmpty)) H
abbrev rNotInS : R2 := fun x y H Q => ∃ i j, x = .str i ∧ y = .str j ∧ Q (.bl (!(!(Builtin.Str.occurrences j i 0 j.length 1).isEmpty))) H
theorem opD_in {K : PySem.W.Frag} : OpD (fun x y H Q => rInS x y H Q ∨ rInD K x y H Q) inD := by
  intro G H x y dx dy d Q s hx hy hf hg
  cases dy with
  | list ds =>
    have hf' : (if SeqAt.shaped dx = true ∧ SeqAt.shaped (.list ds) = true then some (PyData.bool (ds.any fun z => PyData.eqv z dx)) else none) = some d := by
      cases dx <;> exact hf
    split at hf'
    · rename_i h
      cases hf'
      exact .inr ⟨_, _, dp_of (dp_same s hx), dp_of (dp_same s hy), h.1, h.2, gives_val s hg (.bl _)⟩
    · cases hf'
  | str y' =>
    cases dx <;> simp only [inD, reduceCtorEq] at hf
    cases hf
    cases hx
    cases hy
    exact .inl ⟨_, _, rfl, rfl, gives_val s hg (.bl _)⟩
  | _ => cases dx <;> simp only [inD, reduceCtorEq] at hf
theorem opD_notIn {K : PySem.W.Frag} : OpD (fun x y H Q => rNotInS x y H Q ∨ rNotInD K x y H Q) notInD := by
  intro G H x y dx dy d Q s hx hy hf hg
  cases dy with
  | list ds =>
    have hf' : (if SeqAt.shaped dx = true ∧ SeqAt.shaped (.list ds) = true then some (PyData.bool (!ds.any fun z => PyData.eqv z dx)) else none) = some d := by
      cases dx <;> exact hf
    split at hf'
    · rename_i h
      cases hf'
      exact .inr ⟨_, _, dp_of (dp_same s hx), dp_of (dp_same s hy), h.1, h.2, gives_val s hg (.bl _)⟩
    · cases hf'
  | str y' =>
    cases dx <;> simp only [notInD, reduceCtorEq] at hf
    cases hf
    cases hx
    cases hy
    exact .inl ⟨_, _, rfl, rfl, gives_val s hg (.bl _)⟩
  | _ => cases dx <;> simp only [notInD, reduceCtorEq] at hf
theorem room65 {k : Nat} (hr : Room k X.A) : X.A.units + 65 < cLine := by have := hr.un; omega
theorem de_in {k : Nat} (hr : Room k X.A) (ha : DE X W a wa) (hb : DE X W b wb) (hm : behindInMarks .In b = false := by rfl) : DE X W (.Compare a [.In] [b] pos) (wOp inD wa wb) := de_cmpR (op_in_str.or (op_inD (room65 hr))) opD_in ha hb hm
theorem de_notIn {k : Nat} (hr : Room k X.A) (ha : DE X W a wa) (hb : DE X W b wb) (hm : behindInMarks .NotIn b = false := by rfl) : DE X W (.Compare a [.NotIn] [b] pos) (wOp notInD wa wb) := de_cmpR (op_notin_str.or (op_notInD (room65 hr))) opD_notIn ha hb hm
/-- is, is not: of truths and of None -/
def isD : PyData → PyData → Option PyData
  | .bool p, .bool q => some (.bool (decide (p = q)))
  | .none, .none => some (.bool true)
  | .bool _, .none | .int _, .none | .str _, .none | .list _, .none | .tuple _, .none => some (.bool false)
  | _, _ => none
def isNotD : PyData → PyData → Option PyData
  | .bool p, .bool q => some (.bool (!decide (p = q)))
  | .none, .none => some (.bool false)
  | .bool _, .none | .int _, .none | .str _, .none | .list _, .none | .tuple _, .none => some (.bool true)
  | _, _ => none
abbrev rIsNo : R2 := fun x y H Q => y = .non ∧ Q (.bl (decide (x = .non))) H
abbrev rNotNo : R2 := fun x y H Q => y = .non ∧ Q (.bl (!decide (x = .non))) H
theorem opD_is : OpD (fun x y H Q => rIsB x y H Q ∨ rIsNo x y H Q) isD := by
  intro G H x y dx dy d Q s hx hy hf hg
  cases hx <;> cases hy <;> simp only [isD, reduceCtorEq] at hf <;> cases hf
  · exact .inr ⟨rfl, gives_val s hg (.bl true)⟩
  · exact .inr ⟨rfl, gives_val s hg (.bl false)⟩
  · exact .inl ⟨_, _, rfl, rfl, gives_val s hg (.bl _)⟩
  all_goals exact .inr ⟨rfl, gives_val s hg (.bl false)⟩
theorem opD_isNot : OpD (fun x y H Q => rNotB x y H Q ∨ rNotNo x y H Q) isNotD := by
  intro G H x y dx dy d Q s hx hy hf hg
  cases hx <;> cases hy <;> simp only [isNotD, reduceCtorEq] at hf <;> cases hf
  · exact .inr ⟨rfl, gives_val s hg (.bl false)⟩
  · exact .inr ⟨rfl, gives_val s hg (.bl true)⟩
  · exact .inl ⟨_, _, rfl, rfl, gives_val s hg (.bl _)⟩
  all_goals exact .inr ⟨rfl, gives_val s hg (.bl true)⟩
theorem de_is (ha : DE X W a wa) (hb : DE X W b wb) : DE X W (.Compare a [.Is] [b] pos) (wOp isD wa wb) := de_cmpR (op_isBl.or op_isN) opD_is ha hb (nomark _)
theorem de_isNot (ha : DE X W a wa) (hb : DE X W b wb) : DE X W (.Compare a [.IsNot] [b] pos) (wOp isNotD wa wb) := de_cmpR (op_notBl.or op_notN) opD_isNot ha hb (nomark _)
/-- a <= b <= c -/
def wChain (f g : PyData → PyData → Option PyData) (wa wb wc : WE) : WE := fun δ Q E => wa δ (fun x δ1 => wb δ1 (fun y δ2 => ∃ k, f x y = some (.bool k) ∧ if k = true then wc δ2 (fun z δ3 => ∃ r, g y z = some r ∧ Q r δ3) E else Q (.bool false) δ2) E) E
theorem wChain_mono {f g : PyData → PyData → Option PyData} (ha : MonoE wa) (hb : MonoE wb) (hc : MonoE wc) : MonoE (wChain f g wa wb wc) := fun δ Q Q' E E' hq he h =>
  ha _ _ _ _ _ (fun x δ1 h1 => hb _ _ _ _ _ (fun y δ2 ⟨k, h2, h3⟩ => ⟨k, h2, by
    split at h3
    · rename_i hk
      rw [if_pos hk]
      exact hc _ _ _ _ _ (fun z δ3 ⟨r, h4, h5⟩ => ⟨r, h4, hq _ _ h5⟩) he h3
    · rename_i hk
      rw [if_neg hk]
      exact hq _ _ h3⟩) he h1) he h
theorem de_chain {op op' : CmpOp} {p q : Int → Int → Bool} (ho : OpR X (compareOp op) (rI0 fun i j => .bl (p i j))) (ho' : OpR X (compareOp op') (rI0 fun i j => .bl (q i j))) (ha : DE X W a wa) (hb : DE X W b wb) (hc : DE X W c wc)
    (hm : lastMarks [op, op'] [b, c] = false) : DE X W (.Compare a [op, op'] [b, c] pos) (wChain (cmpI p) (cmpI q) wa wb wc) := by
  refine ⟨pe_imp (pe_chain ho ho' ha.pe hb.pe hc.pe hm) fun σ H Q hh => ?_, wChain_mono ha.mono hb.mono hc.mono⟩
  obtain ⟨B, G, F, δ, R, h⟩ := hh
  refine ⟨B, G, F, δ, R, ha.mono _ _ _ _ _ (fun x δ1 h1 => ?_) (fun _ _ z => z) h⟩
  intro G1 H1 v1 g1 R1 d1
  refine ⟨B, G1, F, δ1, R1, hb.mono _ _ _ _ _ (fun y δ2 h2 => ?_) (xL_up g1) h1⟩
  intro G2 H2 v2 g2 R2 d2
  obtain ⟨k, hk, h3⟩ := h2
  refine opD_cmpI p G2 H2 v1 v2 x y _ _ R2.g (dp_same g2.g d1) d2 hk fun G3 H3 v3 w3 d3 => ?_
  cases d3
  refine ⟨k, rfl, ?_⟩
  have g3 := g1.trans (g2.trans (w3.gr R2.f))
  split at h3
  · rename_i hk'
    rw [if_pos hk']
    refine ⟨B, G3, F, δ2, R2.gw w3, hc.mono _ _ _ _ _ (fun z δ3 h4 => ?_) (xL_up g3) h3⟩
    intro G4 H4 v4 g4 R4 d4
    obtain ⟨r, hr, h5⟩ := h4
    refine opD_cmpI q G4 H4 v2 v4 y z r _ R4.g (dp_same g4.g (dp_same w3.g d2)) d4 hr fun G5 H5 v5 w5 d5 => ?_
    exact h5 G5 H5 v5 (g3.trans (g4.trans (w5.gr R4.f))) (R4.gw w5) d5
  · rename_i hk'
    rw [if_neg hk']
    exact h3 G3 H3 _ g3 (R2.gw w3) (.bl false)
theorem de_lele (ha : DE X W a wa) (hb : DE X W b wb) (hc : DE X W c wc) (hm : lastMarks [.LtE, .LtE] [b, c] = false := by rfl) : DE X W (.Compare a [.LtE, .LtE] [b, c] pos) (wChain leD leD wa wb wc) := de_chain op_le op_le ha hb hc hm

/-! ### truths -/
def wB (w : WE) : WT := fun δ Q E => w δ (fun x δ' => ∃ k, x = .bool k ∧ Q k δ') E
theorem wB_mono {w : WE} (h : MonoE w) : MonoE (wB w) := fun δ Q Q' E E' hq he hh => h _ _ _ _ _ (fun x δ' ⟨k, h1, h2⟩ => ⟨k, h1, hq _ _ h2⟩) he hh
theorem dt_val (h : DE X W e wa) (he : ∀ whole, isTrue e X.env whole = (do let v ← whole; standAt e.pos; holding [v] (truthy v)) := by intro _; rfl) : DT X W e (wB wa) := by
  refine ⟨pt_imp (pt_val h.pe he) fun σ H Q hh => ?_, wB_mono h.mono⟩
  obtain ⟨B, G, F, δ, R, hh⟩ := hh
  refine ⟨B, G, F, δ, R, h.mono _ _ _ _ _ (fun x δ1 h1 => ?_) (fun _ _ z => z) hh⟩
  intro G1 H1 v1 g1 R1 d1
  obtain ⟨k, rfl, h2⟩ := h1
  cases d1
  exact ⟨k, rfl, h2 G1 H1 g1 R1⟩
/-- a comparison as a test -/
theorem dt_cmpR {op : CmpOp} {r : R2} {f : PyData → PyData → Option PyData} (ho : OpR X (compareOp op) r) (hd : OpD r f) (ha : DE X W a wa) (hb : DE X W b wb) (hm : behindInMarks op b = false) : DT X W (.Compare a [op] [b] pos) (wB (wOp f wa wb)) := by
  refine ⟨pt_imp (pt_cmpR ho ha.pe hb.pe hm) fun σ H Q hh => ?_, wB_mono (wOp_mono ha.mono hb.mono)⟩
  have z : tD X.K W (wOp f wa wb) σ H (fun x H' => ∃ k, x = .bl k ∧ Q k H') := by
    obtain ⟨B, G, F, δ, R, h⟩ := hh
    refine ⟨B, G, F, δ, R, wOp_mono ha.mono hb.mono _ _ _ _ _ (fun x δ1 h1 => ?_) (fun _ _ z => z) h⟩
    intro G1 H1 v1 g1 R1 d1
    obtain ⟨k, rfl, h2⟩ := h1
    cases d1
    exact ⟨k, rfl, h2 G1 H1 g1 R1⟩
  exact tOp_of hd ha.mono hb.mono σ H _ z
theorem dt_lt (ha : DE X W a wa) (hb : DE X W b wb) : DT X W (.Compare a [.Lt] [b] pos) (wB (wOp ltD wa wb)) := dt_cmpR op_lt (opD_cmpI _) ha hb (nomark _)
theorem dt_le (ha : DE X W a wa) (hb : DE X W b wb) : DT X W (.Compare a [.LtE] [b] pos) (wB (wOp leD wa wb)) := dt_cmpR op_le (opD_cmpI _) ha hb (nomark _)
theorem dt_gt (ha : DE X W a wa) (hb : DE X W b wb) : DT X W (.Compare a [.Gt] [b] pos) (wB (wOp gtD wa wb)) := dt_cmpR op_gt (opD_cmpI _) ha hb (nomark _)
theorem dt_ge (ha : DE X W a wa) (hb : DE X W b wb) : DT X W (.Compare a [.GtE] [b] pos) (wB (wOp geD wa wb)) := dt_cmpR op_ge (opD_cmpI _) ha hb (nomark _)
theorem dt_eq {k : Nat} (hr : Room k X.A) (ha : DE X W a wa) (hb : DE X W b wb) : DT X W (.Compare a [.Eq] [b] pos) (wB (wOp eqD wa wb)) := dt_cmpR (op_eq.or (op_eqD hr.units)) opD_eq ha hb (nomark _)
theorem dt_ne {k : Nat} (hr : Room k X.A) (ha : DE X W a wa) (hb : DE X W b wb) : DT X W (.Compare a [.NotEq] [b] pos) (wB (wOp neD wa wb)) := dt_cmpR (op_ne.or (op_neD hr.units)) opD_ne ha hb (nomark _)
theorem dt_in {k : Nat} (hr : Room k X.A) (ha : DE X W a wa) (hb : DE X W b wb) (hm : behindInMarks .In b = false := by rfl) : DT X W (.Compare a [.In] [b] pos) (wB (wOp inD wa wb)) := dt_cmpR (op_in_str.or (op_inD (room65 hr))) opD_in ha hb hm
theorem dt_notIn {k : Nat} (hr : Room k X.A) (ha : DE X W a wa) (hb : DE X W b wb) (hm : behindInMarks .NotIn b = false := by rfl) : DT X W (.Compare a [.NotIn] [b] pos) (wB (wOp notInD wa wb)) := dt_cmpR (op_notin_str.or (op_notInD (room65 hr))) opD_notIn ha hb hm
theorem dt_is (ha : DE X W a wa) (hb : DE X W b wb) : DT X W (.Compare a [.Is] [b] pos) (wB (wOp isD wa wb)) := dt_cmpR (op_isBl.or op_isN) opD_is ha hb (nomark _)
theorem dt_isNot (ha : DE X W a wa) (hb : DE X W b wb) : DT X W (.Compare a [.IsNot] [b] pos) (wB (wOp isNotD wa wb)) := dt_cmpR (op_notBl.or op_notN) opD_isNot ha hb (nomark _)
def wAnd (t u : WT) : WT := fun δ Q E => t δ (fun c δ1 => if c = true then u δ1 Q E else Q false δ1) E
def wOr (t u : WT) : WT := fun δ Q E => t δ (fun c δ1 => if c = true then Q true δ1 else u δ1 Q E) E
def wNot (t : WT) : WT := fun δ Q E => t δ (fun c δ1 => Q (!c) δ1) E
theorem wAnd_mono {t u : WT} (ht : MonoE t) (hu : MonoE u) : MonoE (wAnd t u) := fun δ Q Q' E E' hq he h => ht _ _ _ _ _ (fun c δ1 h1 => by
  split at h1
  · rename_i hc
    rw [if_pos hc]
    exact hu _ _ _ _ _ hq he h1
  · rename_i hc
    rw [if_neg hc]
    exact hq _ _ h1) he h
theorem wOr_mono {t u : WT} (ht : MonoE t) (hu : MonoE u) : MonoE (wOr t u) := fun δ Q Q' E E' hq he h => ht _ _ _ _ _ (fun c δ1 h1 => by
  split at h1
  · rename_i hc
    rw [if_pos hc]
    exact hq _ _ h1
  · rename_i hc
    rw [if_neg hc]
    exact hu _ _ _ _ _ hq he h1) he h
theorem wNot_mono {t : WT} (ht : MonoE t) : MonoE (wNot t) := fun δ Q Q' E E' hq he h => ht _ _ _ _ _ (fun c δ1 h1 => hq _ _ h1) he h
variable {tA tB : WT} {rest : List Expr}
theorem dw_and1 (h : DT X W a tA) : DW X W (.BoolOp .And [a] pos) tA := ⟨pw_and1 h.pt, h.mono⟩
theorem dw_or1 (h : DT X W a tA) : DW X W (.BoolOp .Or [a] pos) tA := ⟨pw_or1 h.pt, h.mono⟩
theorem dw_and (ha : DT X W a tA) (hb : DW X W (.BoolOp .And (b :: rest) pos) tB) : DW X W (.BoolOp .And (a :: b :: rest) pos) (wAnd tA tB) := by
  refine ⟨pw_imp (pw_and ha.pt hb.pw) fun σ H Q hh => ?_, wAnd_mono ha.mono hb.mono⟩
  obtain ⟨B, G, F, δ, R, h⟩ := hh
  refine ⟨B, G, F, δ, R, ha.mono _ _ _ _ _ (fun c δ1 h1 => ?_) (fun _ _ z => z) h⟩
  intro G1 H1 g1 R1
  split at h1
  · rename_i hc
    rw [if_pos hc]
    exact ⟨B, G1, F, δ1, R1, hb.mono _ _ _ _ _ (fun b' δ2 h2 => fun G2 H2 g2 R2 => h2 G2 H2 (g1.trans g2) R2) (xL_up g1) h1⟩
  · rename_i hc
    rw [if_neg hc]
    exact h1 G1 H1 g1 R1
theorem dw_or (ha : DT X W a tA) (hb : DW X W (.BoolOp .Or (b :: rest) pos) tB) : DW X W (.BoolOp .Or (a :: b :: rest) pos) (wOr tA tB) := by
  refine ⟨pw_imp (pw_or ha.pt hb.pw) fun σ H Q hh => ?_, wOr_mono ha.mono hb.mono⟩
  obtain ⟨B, G, F, δ, R, h⟩ := hh
  refine ⟨B, G, F, δ, R, ha.mono _ _ _ _ _ (fun c δ1 h1 => ?_) (fun _ _ z => z) h⟩
  intro G1 H1 g1 R1
  split at h1
  · rename_i hc
    rw [if_pos hc]
    exact h1 G1 H1 g1 R1
  · rename_i hc
    rw [if_neg hc]
    exact ⟨B, G1, F, δ1, R1, hb.mono _ _ _ _ _ (fun b' δ2 h2 => fun G2 H2 g2 R2 => h2 G2 H2 (g1.trans g2) R2) (xL_up g1) h1⟩
theorem DW.dt (h : DW X W e tA) : DT X W e tA := ⟨h.pw.pt, h.mono⟩
theorem dt_not (ha : DT X W a tA) : DT X W (.UnaryOp .Not a pos) (wNot tA) := by
  refine ⟨pt_imp (pt_not ha.pt) fun σ H Q hh => ?_, wNot_mono ha.mono⟩
  obtain ⟨B, G, F, δ, R, h⟩ := hh
  exact ⟨B, G, F, δ, R, h⟩
/-- and, or, not as values -/
def wAndV (wa wb : WE) : WE := fun δ Q E => wa δ (fun x δ1 => ∃ c, x = .bool c ∧ if c = true then wb δ1 Q E else Q (.bool false) δ1) E
def wOrV (wa wb : WE) : WE := fun δ Q E => wa δ (fun x δ1 => ∃ c, x = .bool c ∧ if c = true then Q (.bool true) δ1 else wb δ1 Q E) E
def wNotV (wa : WE) : WE := fun δ Q E => wa δ (fun x δ1 => ∃ c, x = .bool c ∧ Q (.bool (!c)) δ1) E
theorem wAndV_mono (ha : MonoE wa) (hb : MonoE wb) : MonoE (wAndV wa wb) := fun δ Q Q' E E' hq he h => ha _ _ _ _ _ (fun x δ1 ⟨c, h0, h1⟩ => ⟨c, h0, by
  split at h1
  · rename_i hc
    rw [if_pos hc]
    exact hb _ _ _ _ _ hq he h1
  · rename_i hc
    rw [if_neg hc]
    exact hq _ _ h1⟩) he h
theorem wOrV_mono (ha : MonoE wa) (hb : MonoE wb) : MonoE (wOrV wa wb) := fun δ Q Q' E E' hq he h => ha _ _ _ _ _ (fun x δ1 ⟨c, h0, h1⟩ => ⟨c, h0, by
  split at h1
  · rename_i hc
    rw [if_pos hc]
    exact hq _ _ h1
  · rename_i hc
    rw [if_neg hc]
    exact hb _ _ _ _ _ hq he h1⟩) he h
theorem wNotV_mono (ha : MonoE wa) : MonoE (wNotV wa) := fun δ Q Q' E E' hq he h => ha _ _ _ _ _ (fun x δ1 ⟨c, h0, h1⟩ => ⟨c, h0, hq _ _ h1⟩) he h
theorem de_one {op} (h : DE X W a wa) : DE X W (.BoolOp op [a] pos) wa := ⟨pe_one h.pe, h.mono⟩
theorem de_and (ha : DE X W a wa) (hb : DE X W (.BoolOp .And (b :: rest) pos) wb) : DE X W (.BoolOp .And (a :: b :: rest) pos) (wAndV wa wb) := by
  refine ⟨pe_imp (pe_and ha.pe hb.pe) fun σ H Q hh => ?_, wAndV_mono ha.mono hb.mono⟩
  obtain ⟨B, G, F, δ, R, h⟩ := hh
  refine ⟨B, G, F, δ, R, ha.mono _ _ _ _ _ (fun x δ1 h1 => ?_) (fun _ _ z => z) h⟩
  intro G1 H1 v1 g1 R1 d1
  obtain ⟨c, rfl, h1⟩ := h1
  cases d1
  refine ⟨c, rfl, ?_⟩
  split at h1
  · rename_i hc
    rw [if_pos hc]
    exact ⟨B, G1, F, δ1, R1, hb.mono _ _ _ _ _ (fun x δ2 h2 => fun G2 H2 v g2 R2 d2 => h2 G2 H2 v (g1.trans g2) R2 d2) (xL_up g1) h1⟩
  · rename_i hc
    rw [if_neg hc]
    exact h1 G1 H1 _ g1 R1 (.bl false)
theorem de_or (ha : DE X W a wa) (hb : DE X W (.BoolOp .Or (b :: rest) pos) wb) : DE X W (.BoolOp .Or (a :: b :: rest) pos) (wOrV wa wb) := by
  refine ⟨pe_imp (pe_or ha.pe hb.pe) fun σ H Q hh => ?_, wOrV_mono ha.mono hb.mono⟩
  obtain ⟨B, G, F, δ, R, h⟩ := hh
  refine ⟨B, G, F, δ, R, ha.mono _ _ _ _ _ (fun x δ1 h1 => ?_) (fun _ _ z => z) h⟩
  intro G1 H1 v1 g1 R1 d1
  obtain ⟨c, rfl, h1⟩ := h1
  cases d1
  refine ⟨c, rfl, ?_⟩
  split at h1
  · rename_i hc
    rw [if_pos hc]
    exact h1 G1 H1 _ g1 R1 (.bl true)
  · rename_i hc
    rw [if_neg hc]
    exact ⟨B, G1, F, δ1, R1, hb.mono _ _ _ _ _ (fun x δ2 h2 => fun G2 H2 v g2 R2 d2 => h2 G2 H2 v (g1.trans g2) R2 d2) (xL_up g1) h1⟩
theorem de_not (ha : DE X W a wa) : DE X W (.UnaryOp .Not a pos) (wNotV wa) := by
  refine ⟨pe_imp (pe_not ha.pe) fun σ H Q hh => ?_, wNotV_mono ha.mono⟩
  obtain ⟨B, G, F, δ, R, h⟩ := hh
  refine ⟨B, G, F, δ, R, ha.mono _ _ _ _ _ (fun x δ1 h1 => ?_) (fun _ _ z => z) h⟩
  intro G1 H1 v1 g1 R1 d1
  obtain ⟨c, rfl, h1⟩ := h1
  cases d1
  exact ⟨c, rfl, h1 G1 H1 _ g1 R1 (.bl _)⟩
def negD : PyData → Option PyData
  | .int i => some (.int (-i))
  | _ => none
def wUn (f : PyData → Option PyData) (wa : WE) : WE := fun δ Q E => wa δ (fun x δ1 => ∃ z, f x = some z ∧ Q z δ1) E
theorem wUn_mono {f : PyData → Option PyData} (ha : MonoE wa) : MonoE (wUn f wa) := fun δ Q Q' E E' hq he h => ha _ _ _ _ _ (fun x δ1 ⟨z, h0, h1⟩ => ⟨z, h0, hq _ _ h1⟩) he h
theorem de_neg (ha : DE X W a wa) : DE X W (.UnaryOp .USub a pos) (wUn negD wa) := by
  refine ⟨pe_imp (pe_un un_neg ha.pe) fun σ H Q hh => ?_, wUn_mono ha.mono⟩
  obtain ⟨B, G, F, δ, R, h⟩ := hh
  refine ⟨B, G, F, δ, R, ha.mono _ _ _ _ _ (fun x δ1 h1 => ?_) (fun _ _ z => z) h⟩
  intro G1 H1 v1 g1 R1 d1
  obtain ⟨z, hz, h1⟩ := h1
  cases d1 <;> simp only [negD, reduceCtorEq] at hz
  cases hz
  exact ⟨_, rfl, h1 G1 H1 _ g1 R1 (.int _)⟩
def wIf (t : WT) (wa wb : WE) : WE := fun δ Q E => t δ (fun c δ1 => if c = true then wa δ1 Q E else wb δ1 Q E) E
theorem wIf_mono {t : WT} (ht : MonoE t) (ha : MonoE wa) (hb : MonoE wb) : MonoE (wIf t wa wb) := fun δ Q Q' E E' hq he h => ht _ _ _ _ _ (fun c δ1 h1 => by
  split at h1
  · rename_i hc
    rw [if_pos hc]
    exact ha _ _ _ _ _ hq he h1
  · rename_i hc
    rw [if_neg hc]
    exact hb _ _ _ _ _ hq he h1) he h
theorem de_if (hc : DT X W c tA) (ha : DE X W a wa) (hb : DE X W b wb) : DE X W (.IfExp c a b pos) (wIf tA wa wb) := by
  refine ⟨pe_imp (pe_ifExp hc.pt ha.pe hb.pe) fun σ H Q hh => ?_, wIf_mono hc.mono ha.mono hb.mono⟩
  obtain ⟨B, G, F, δ, R, h⟩ := hh
  refine ⟨B, G, F, δ, R, hc.mono _ _ _ _ _ (fun k δ1 h1 => ?_) (fun _ _ z => z) h⟩
  intro G1 H1 g1 R1
  split at h1
  · rename_i hk
    rw [if_pos hk]
    exact ⟨B, G1, F, δ1, R1, ha.mono _ _ _ _ _ (fun x δ2 h2 => fun G2 H2 v g2 R2 d2 => h2 G2 H2 v (g1.trans g2) R2 d2) (xL_up g1) h1⟩
  · rename_i hk
    rw [if_neg hk]
    exact ⟨B, G1, F, δ1, R1, hb.mono _ _ _ _ _ (fun x δ2 h2 => fun G2 H2 v g2 R2 d2 => h2 G2 H2 v (g1.trans g2) R2 d2) (xL_up g1) h1⟩
end
end RD

/-! The data layer, part c: arguments, items, slices, displays, built-in calls. -/
namespace RD
open PySem L2
section
variable {X : Cx} {W : WX} {a b c e : Expr} {es : List Expr} {pos : Pos} {wa wb wc we : WE} {wr : WA}
def wNil : WA := fun δ Q _ => Q [] δ
def wCons (we : WE) (wr : WA) : WA := fun δ Q E => we δ (fun x δ1 => wr δ1 (fun xs δ2 => Q (x :: xs) δ2) E) E
theorem wNil_mono : MonoE wNil := fun _ _ _ _ _ hq _ h => hq _ _ h
theorem wCons_mono (h1 : MonoE we) (h2 : MonoE wr) : MonoE (wCons we wr) := fun δ Q Q' E E' hq he h => h1 _ _ _ _ _ (fun x δ1 h3 => h2 _ _ _ _ _ (fun xs δ2 h4 => hq _ _ h4) he h3) he h
theorem da_nil : DA X W [] wNil := by
  refine ⟨pa_imp pa_nil fun σ H Q hh => ?_, wNil_mono⟩
  obtain ⟨B, G, F, δ, R, h⟩ := hh
  exact h G H [] (Gr.refl F G) R .nil
theorem da_cons (h1 : DE X W e we) (h2 : DA X W es wr) (hs : starEach (e :: es) X.env = (false, eval e X.env) :: starEach es X.env := by rfl) : DA X W (e :: es) (wCons we wr) := by
  refine ⟨pa_imp (pa_cons h1.pe h2.pa hs) fun σ H Q hh => ?_, wCons_mono h1.mono h2.mono⟩
  obtain ⟨B, G, F, δ, R, h⟩ := hh
  refine ⟨B, G, F, δ, R, h1.mono _ _ _ _ _ (fun x δ1 h3 => ?_) (fun _ _ z => z) h⟩
  intro G1 H1 v1 g1 R1 d1
  refine ⟨B, G1, F, δ1, R1, h2.mono _ _ _ _ _ (fun xs δ2 h4 => ?_) (xL_up g1) h3⟩
  intro G2 H2 vs g2 R2 d2
  exact h4 G2 H2 (v1 :: vs) (g1.trans g2) R2 (.cons (dp_same g2.g d1) d2)

/-! ### calls of built-ins by data -/
def wCallF (f : List PyData → Option PyData) (w : WA) : WE := fun δ Q E => w δ (fun xs δ' => ∃ z, f xs = some z ∧ Q z δ') E
theorem wCallF_mono {f : List PyData → Option PyData} (h : MonoE wr) : MonoE (wCallF f wr) := fun δ Q Q' E E' hq he hh => h _ _ _ _ _ (fun xs δ1 ⟨z, h1, h2⟩ => ⟨z, h1, hq _ _ h2⟩) he hh
theorem tCB_of {r : List V → Hp → VK → Prop} {f : List PyData → Option PyData} (hd : CallD r f) (m : MonoE wr) (σ : St) (H : Hp) (Q : VK) (hh : tD X.K W (wCallF f wr) σ H Q) : tCB r (tDA X.K W wr) σ H Q := by
  obtain ⟨B, G, F, δ, R, h⟩ := hh
  refine ⟨B, G, F, δ, R, m _ _ _ _ _ (fun xs δ1 h1 => ?_) (fun _ _ z => z) h⟩
  intro G1 H1 vs g1 R1 d1
  obtain ⟨z, hz, hq⟩ := h1
  exact hd G1 H1 vs xs z Q R1.g d1 hz fun G2 H2 v w2 d2 => hq G2 H2 v (g1.trans (w2.gr R1.f)) (R1.gw w2) d2
variable {x : Str} {p : Pos}
theorem de_callB {id : String} {r : List V → Hp → VK → Prop} {f : List PyData → Option PyData} (hc : CallR X (.builtin id) r) (hd : CallD r f) (hg : Gl X x) (hm : X.mg x = none) (hv : bootBuiltins x = some (.builtin id)) (ha : DA X W (e :: es) wr)
    (hn : x ≠ "__name__" := by decide) (hdb : (x == ("__debug__" : Str)) = false := by decide) (hs : starEach (e :: es) X.env = (false, eval e X.env) :: starEach es X.env := by rfl) (hp : (backTo pos (starEach es X.env)).any (·.1) = false := by rfl) :
    DE X W (.Call (.Name x p) (e :: es) [] pos) (wCallF f wr) := ⟨pe_imp (pe_callB hc hg hm hv ha.pa hn hdb hs hp) (tCB_of hd ha.mono), wCallF_mono ha.mono⟩
theorem de_callTy {id : String} {r : List V → Hp → VK → Prop} {f : List PyData → Option PyData} (hc : CallR X (.type id) r) (hd : CallD r f) (hg : Gl X x) (hm : X.mg x = none) (hv : bootBuiltins x = some (.type id)) (ha : DA X W (e :: es) wr)
    (hn : x ≠ "__name__" := by decide) (hdb : (x == ("__debug__" : Str)) = false := by decide) (hs : starEach (e :: es) X.env = (false, eval e X.env) :: starEach es X.env := by rfl) (hp : (backTo pos (starEach es X.env)).any (·.1) = false := by rfl) :
    DE X W (.Call (.Name x p) (e :: es) [] pos) (wCallF f wr) := ⟨pe_imp (pe_callTy hc hg hm hv ha.pa hn hdb hs hp) (tCB_of hd ha.mono), wCallF_mono ha.mono⟩

/-- one argument, by cases of its data -/
theorem dqAll1 {G : Hp} {vs : List V} {d : PyData} (h : DqAll G vs [d]) : ∃ v, vs = [v] ∧ Dq G v d := by
  cases h with
  | cons h1 h2 =>
    cases h2
    exact ⟨_, rfl, h1⟩
theorem dqAll2 {G : Hp} {vs : List V} {d d' : PyData} (h : DqAll G vs [d, d']) : ∃ v v', vs = [v, v'] ∧ Dq G v d ∧ Dq G v' d' := by
  cases h with
  | cons h1 h2 =>
    obtain ⟨v, rfl, h3⟩ := dqAll1 h2
    exact ⟨_, _, rfl, h1, h3⟩

def lenD : List PyData → Option PyData
  | [.str z] => if z.length ≤ sizeLine then some (.int z.length) else none
  | [.list ds] => some (.int ds.length)
  | [.tuple ds] => some (.int ds.length)
  | _ => none
theorem callD_len {K : PySem.W.Frag} : CallD (fun xs H Q => ∃ x n, xs = [x] ∧ LenV K x H n ∧ Q (.int n) H) lenD := by
  intro G H vs ds d Q s h hf hg
  match ds, hf with
  | [.str z], hf =>
    obtain ⟨v, rfl, hv⟩ := dqAll1 h
    cases hv
    simp only [lenD] at hf
    split at hf
    · rename_i hz
      cases hf
      exact ⟨_, _, rfl, ⟨hz, rfl⟩, gives_val s hg (.int _)⟩
    · cases hf
  | [.list ds], hf =>
    obtain ⟨v, rfl, hv⟩ := dqAll1 h
    cases hv with
    | lst h1 h2 =>
      cases hf
      refine ⟨_, _, rfl, .inl ⟨_, SqL.of (s _ _ h1), rfl⟩, ?_⟩
      rw [dpAll_len h2]
      exact gives_val s hg (.int _)
  | [.tuple ds], hf =>
    obtain ⟨v, rfl, hv⟩ := dqAll1 h
    cases hv with
    | tup h1 h2 =>
      cases hf
      refine ⟨_, _, rfl, .inr ⟨_, SqT.of (s _ _ h1), rfl⟩, ?_⟩
      rw [dpAll_len h2]
      exact gives_val s hg (.int _)
theorem de_len (hm : X.mg "len" = none) (ha : DA X W (e :: es) wr) (hg : Gl X "len" := by rfl) (hs : starEach (e :: es) X.env = (false, eval e X.env) :: starEach es X.env := by rfl) (hp : (backTo pos (starEach es X.env)).any (·.1) = false := by rfl) :
    DE X W (.Call (.Name "len" p) (e :: es) [] pos) (wCallF lenD wr) := de_callB call_len callD_len hg hm PySem.boot_len ha (by decide) (by decide) hs hp

/-- isinstance(e, T), T a built-in class -/
def isaOf : String → Option (PyData → Bool)
  | "str" => some PyData.isStr
  | "int" => some PyData.isInt
  | "bool" => some PyData.isBool
  | "list" => some PyData.isList
  | "tuple" => some PyData.isTuple
  | _ => none
def rIsa (K : PySem.W.Frag) (T : String) (f : PyData → Bool) : List V → Hp → VK → Prop := fun xs H Q => ∃ x d, xs = [x, .ty T] ∧ Dp K H x d ∧ Q (.bl (f d)) H
theorem call_isa {T : String} {f : PyData → Bool} (hT : isaOf T = some f) : CallR X (.builtin "isinstance") (rIsa X.K T f) := by
  intro pins s σ H xs us Q I r h
  obtain ⟨x, d, rfl, hd, q⟩ := h
  obtain ⟨u, w', rfl, r1, r2⟩ := vals2 r
  cases r2
  obtain ⟨as, rd⟩ := Dp.reads I d x u hd r1
  unfold isaOf at hT
  split at hT <;> first | cases hT | skip
  · exact PySem.W.isinstance_str_data rd fun tk _ => ⟨.bl _, H, I.tok tk, rfl, q⟩
  · exact PySem.W.isinstance_int_data rd fun tk _ => ⟨.bl _, H, I.tok tk, rfl, q⟩
  · exact PySem.W.isinstance_bool_data rd fun tk _ => ⟨.bl _, H, I.tok tk, rfl, q⟩
  · exact PySem.W.isinstance_list_data rd fun tk _ => ⟨.bl _, H, I.tok tk, rfl, q⟩
  · exact PySem.W.isinstance_tuple_data rd fun tk _ => ⟨.bl _, H, I.tok tk, rfl, q⟩
theorem de_isa {T : String} {f : PyData → Bool} {y : Str} {p2 : Pos} (hT : isaOf T = some f) (hmi : X.mg "isinstance" = none) (hmy : X.mg y = none) (hy : bootBuiltins y = some (.type T)) (he : DE X W e we) (hgi : Gl X "isinstance" := by rfl) (hgy : Gl X y := by rfl)
    (hv : bootBuiltins "isinstance" = some (.builtin "isinstance") := by decide +kernel) (hyn : y ≠ "__name__" := by decide) (hyd : (y == ("__debug__" : Str)) = false := by decide)
    (hs : starEach [e, .Name y p2] X.env = (false, eval e X.env) :: starEach [.Name y p2] X.env := by rfl) (hs2 : starEach [.Name y p2] X.env = (false, eval (.Name y p2) X.env) :: starEach [] X.env := by rfl)
    (hp : (backTo pos (starEach [.Name y p2] X.env)).any (·.1) = false := by rfl) :
    DE X W (.Call (.Name "isinstance" p) [e, .Name y p2] [] pos) (wUn (fun d => some (.bool (f d))) we) := by
  have h1 : PA X [e, .Name y p2] (tCons (tD X.K W we) (tCons (tC (.ty T)) tNil)) := pa_cons he.pe (pa_cons (pe_bltn hgy hmy hy rfl hyn hyd) pa_nil hs2) hs
  refine ⟨pe_imp (pe_callB (call_isa hT) hgi hmi hv h1 (by decide) (by decide) hs hp) fun σ H Q hh => ?_, wUn_mono he.mono⟩
  obtain ⟨B, G, F, δ, R, h⟩ := hh
  refine ⟨B, G, F, δ, R, he.mono _ _ _ _ _ (fun x δ1 h1 => ?_) (fun _ _ z => z) h⟩
  intro G1 H1 v1 g1 R1 d1
  obtain ⟨z, hz, h2⟩ := h1
  cases hz
  exact ⟨_, _, rfl, dp_of (dp_same R1.g d1), h2 G1 H1 _ g1 R1 (.bl _)⟩

/-- all(..), any(..) of a list of truths -/
def bools : List PyData → Option (List Bool)
  | [] => some []
  | .bool b :: ds => (bools ds).map (b :: ·)
  | _ :: _ => none
theorem bools_vals {G : Hp} : ∀ {vs : List V} {ds : List PyData} {bs : List Bool}, DqAll G vs ds → bools ds = some bs → vs = bs.map V.bl
  | _, _, _, .nil, e => by
    cases e
    rfl
  | _, .bool b :: ds, bs, .cons h t, e => by
    cases h
    simp only [bools, Option.map_eq_some_iff] at e
    obtain ⟨l, h1, rfl⟩ := e
    rw [bools_vals t h1]
    rfl
theorem bools_map (bs : List Bool) : bools (bs.map .bool) = some bs := by
  induction bs with
  | nil => rfl
  | cons b bs ih => simp [bools, ih]
def allF : List PyData → Option PyData
  | [.list ds] => (bools ds).map fun bs => .bool (bs.all id)
  | _ => none
def anyF : List PyData → Option PyData
  | [.list ds] => (bools ds).map fun bs => .bool (bs.any id)
  | _ => none
theorem callD_all {K : PySem.W.Frag} : CallD (rAll K) allF := by
  intro G H vs ds d Q s h hf hg
  match ds, hf with
  | [.list ds], hf =>
    obtain ⟨v, rfl, hv⟩ := dqAll1 h
    cases hv with
    | lst h1 h2 =>
      simp only [allF, Option.map_eq_some_iff] at hf
      obtain ⟨bs, h3, rfl⟩ := hf
      have e := bools_vals h2 h3
      subst e
      exact ⟨_, bs, rfl, SqL.of (s _ _ h1), gives_val s hg (.bl _)⟩
theorem callD_any {K : PySem.W.Frag} : CallD (rAny K) anyF := by
  intro G H vs ds d Q s h hf hg
  match ds, hf with
  | [.list ds], hf =>
    obtain ⟨v, rfl, hv⟩ := dqAll1 h
    cases hv with
    | lst h1 h2 =>
      simp only [anyF, Option.map_eq_some_iff] at hf
      obtain ⟨bs, h3, rfl⟩ := hf
      have e := bools_vals h2 h3
      subst e
      exact ⟨_, bs, rfl, SqL.of (s _ _ h1), gives_val s hg (.bl _)⟩
theorem de_all (hc : X.calm = true) (hm : X.mg "all" = none) (ha : DA X W (e :: es) wr) (hg : Gl X "all" := by rfl) (hs : starEach (e :: es) X.env = (false, eval e X.env) :: starEach es X.env := by rfl) (hp : (backTo pos (starEach es X.env)).any (·.1) = false := by rfl) :
    DE X W (.Call (.Name "all" p) (e :: es) [] pos) (wCallF allF wr) := de_callB (cr_all hc) callD_all hg hm (by decide +kernel) ha (by decide) (by decide) hs hp
theorem de_any (hc : X.calm = true) (hm : X.mg "any" = none) (ha : DA X W (e :: es) wr) (hg : Gl X "any" := by rfl) (hs : starEach (e :: es) X.env = (false, eval e X.env) :: starEach es X.env := by rfl) (hp : (backTo pos (starEach es X.env)).any (·.1) = false := by rfl) :
    DE X W (.Call (.Name "any" p) (e :: es) [] pos) (wCallF anyF wr) := de_callB (cr_any hc) callD_any hg hm (by decide +kernel) ha (by decide) (by decide) hs hp

/-! ### items and slices -/
def ixD : PyData → PyData → Option PyData
  | .list ds, .int i => atI ds i
  | .tuple ds, .int i => atI ds i
  | .str z, .int i => if z.length ≤ sizeLine then (atI z.cps.toList i).map fun c => .str ⟨#[c]⟩ else none
  | _, _ => none
theorem atI_dq {G : Hp} {vs : List V} {ds : List PyData} {i : Int} {d : PyData} (h : DqAll G vs ds) (e : atI ds i = some d) : ∃ v, atI vs i = some v ∧ Dq G v d := by
  unfold atI at e ⊢
  rw [dpAll_len h]
  cases q : ixN ds.length i with
  | none =>
    rw [q] at e
    cases e
  | some j =>
    rw [q] at e
    exact dpAll_get h e
theorem opD_ix {K : PySem.W.Frag} : OpD (rIx K) ixD := by
  intro G H x y dx dy d Q s hx hy hf hg
  cases hx <;> cases hy <;> simp only [ixD, reduceCtorEq] at hf
  · split at hf
    · rename_i hz
      simp only [Option.map_eq_some_iff] at hf
      obtain ⟨c, h1, rfl⟩ := hf
      exact .inr (.inr ⟨_, _, c, rfl, rfl, hz, h1, gives_val s hg (.str _)⟩)
    · cases hf
  · rename_i h1 h2 i
    obtain ⟨v, h3, h4⟩ := atI_dq h2 hf
    exact .inl ⟨_, _, _, v, rfl, rfl, SqL.of (s _ _ h1), h3, gives_val s hg h4⟩
  · rename_i h1 h2 i
    obtain ⟨v, h3, h4⟩ := atI_dq h2 hf
    exact .inr (.inl ⟨_, _, _, v, rfl, rfl, SqT.of (s _ _ h1), h3, gives_val s hg h4⟩)
theorem de_ix (ha : DE X W a wa) (hb : DE X W b wb) (hs : PlainIx b := by intro _ _; rfl) : DE X W (.Subscript a b pos) (wOp ixD wa wb) := ⟨pe_imp (pe_ix ix_seq ha.pe hb.pe hs) (tOp_of opD_ix ha.mono hb.mono), wOp_mono ha.mono hb.mono⟩
/-- an item of a name's list, own or data -/
def seqAt (δ : DS) (i : Nat) : Option PyData := match δ[i]? with
  | some (.d x) => some x
  | some (.own (.lst xs)) => some (.list xs)
  | _ => none
def wIxV (i : Nat) (wb : WE) : WE := fun δ Q E => ∃ L, seqAt δ i = some L ∧ wb δ (fun y δ1 => seqAt δ1 i = some L ∧ ∃ z, ixD L y = some z ∧ Q z δ1) E
theorem wIxV_mono {i : Nat} (hb : MonoE wb) : MonoE (wIxV i wb) := fun δ Q Q' E E' hq he ⟨L, h0, h⟩ => ⟨L, h0, hb _ _ _ _ _ (fun y δ1 ⟨h0, z, h1, h2⟩ => ⟨h0, z, h1, hq _ _ h2⟩) he h⟩
/-- a slot that is a sequence holds a value that reads so -/
theorem Rel.seqAt {K : PySem.W.Frag} {B G F : Hp} {δ : DS} {σ : St} {H : Hp} (R : Rel K B G F δ σ H) {i : Nat} {L : PyData} (h : seqAt δ i = some L) : ∃ v, σ[i]? = some (some v) ∧ (Dq G v L ∨ ∃ p vs xs, v = .ref p ∧ L = .list xs ∧ H p = some (.lst vs) ∧ DqAll G vs xs) := by
  unfold RD.seqAt at h
  split at h
  · rename_i x ex
    cases h
    obtain ⟨v, h1, h2⟩ := R.dat ex
    exact ⟨v, h1, .inl h2⟩
  · rename_i xs ex
    cases h
    obtain ⟨p', o, e', n1, n2, hp, vs, rfl, dv⟩ := R.own ex
    exact ⟨_, e', .inr ⟨_, _, _, rfl, rfl, hp, dv⟩⟩
  · cases h
theorem de_ixv {i : Nat} (ha : PE X a (tVar i)) (hb : DE X W b wb) (hs : PlainIx b := by intro _ _; rfl) : DE X W (.Subscript a b pos) (wIxV i wb) := by
  refine ⟨pe_imp (pe_ix ix_seq ha hb.pe hs) fun σ H Q hh => ?_, wIxV_mono hb.mono⟩
  obtain ⟨B, G, F, δ, R, L, h0, h⟩ := hh
  obtain ⟨v, ev, _⟩ := R.seqAt h0
  refine ⟨v, ev, B, G, F, δ, R, hb.mono _ _ _ _ _ (fun y δ1 h1 => ?_) (fun _ _ z => z) h⟩
  intro G1 H1 v1 g1 R1 d1
  obtain ⟨h2, z, hz, hq⟩ := h1
  obtain ⟨v', ev', hv⟩ := R1.seqAt h2
  rw [ev] at ev'
  cases ev'
  rcases hv with dx | ⟨p', vs, xs, rfl, rfl, hp, dv⟩
  · exact opD_ix G1 H1 _ _ _ _ z Q R1.g dx d1 hz fun G2 H2 v2 w2 d2 => hq G2 H2 v2 (g1.trans (w2.gr R1.f)) (R1.gw w2) d2
  · cases d1 <;> simp only [ixD, reduceCtorEq] at hz
    obtain ⟨u, h3, h4⟩ := atI_dq dv hz
    exact .inl ⟨_, _, _, u, rfl, rfl, SqL.of hp, h3, hq G1 H1 u g1 R1 h4⟩

/-- slices -/
abbrev WO := DS → (Option Int → DS → Prop) → XC → Prop
def tDO (K : PySem.W.Frag) (W : WX) (w : WO) : TO := fun σ H Q => ∃ B G F δ, Rel K B G F δ σ H ∧ w δ (fun o δ' => ∀ G' H', Gr F G G' → Rel K B G' F δ' σ H' → Q o H') (xL K W B F G σ)
structure DO (X : Cx) (W : WX) (e : Option Expr) (w : WO) : Prop where
  po : PO X e (tDO X.K W w)
  mono : MonoE w
theorem po_imp {e : Option Expr} {t t' : TO} (h : PO X e t) (i : ∀ σ H Q, t' σ H Q → t σ H Q) : PO X e t' := ⟨fun pins s σ H Q I q => h.run pins s σ H Q I (i σ H Q q)⟩
def wON : WO := fun δ Q _ => Q none δ
def wOS (w : WE) : WO := fun δ Q E => w δ (fun x δ' => ∃ i, x = .int i ∧ Q (some i) δ') E
theorem do_none : DO X W none wON := by
  refine ⟨po_imp po_none fun σ H Q hh => ?_, fun _ _ _ _ _ hq _ h => hq _ _ h⟩
  obtain ⟨B, G, F, δ, R, h⟩ := hh
  exact h G H (Gr.refl F G) R
theorem wOS_mono (h : MonoE wa) : MonoE (wOS wa) := fun δ Q Q' E E' hq he hh => h _ _ _ _ _ (fun x δ1 ⟨i, h1, h2⟩ => ⟨i, h1, hq _ _ h2⟩) he hh
theorem do_some (h : DE X W e we) : DO X W (some e) (wOS we) := by
  refine ⟨po_imp (po_some h.pe) fun σ H Q hh => ?_, wOS_mono h.mono⟩
  obtain ⟨B, G, F, δ, R, hh⟩ := hh
  refine ⟨B, G, F, δ, R, h.mono _ _ _ _ _ (fun x δ1 h1 => ?_) (fun _ _ z => z) hh⟩
  intro G1 H1 v1 g1 R1 d1
  obtain ⟨i, rfl, h2⟩ := h1
  cases d1
  exact ⟨i, rfl, h2 G1 H1 g1 R1⟩
def cutD (xs : List PyData) (lo hi : Option Int) : List PyData := (xs.drop (HT.sIx xs.length 0 lo)).take (HT.sIx xs.length xs.length hi - HT.sIx xs.length 0 lo)
def slD : PyData → Option Int → Option Int → Option PyData
  | .str z, lo, hi => if z.length ≤ sizeLine then some (.str (cutS z lo hi)) else none
  | .list xs, lo, hi => some (.list (cutD xs lo hi))
  | _, _, _ => none
def wSl (wa : WE) (wl wh : WO) : WE := fun δ Q E => wa δ (fun x δ1 => wl δ1 (fun lo δ2 => wh δ2 (fun hi δ3 => ∃ z, slD x lo hi = some z ∧ Q z δ3) E) E) E
variable {wl wh : WO} {lo hi : Option Expr} {p2 : Pos}
theorem wSl_mono (ha : MonoE wa) (hl : MonoE wl) (hh : MonoE wh) : MonoE (wSl wa wl wh) := fun δ Q Q' E E' hq he h => ha _ _ _ _ _ (fun x δ1 h1 => hl _ _ _ _ _ (fun l δ2 h2 => hh _ _ _ _ _ (fun u δ3 ⟨z, h3, h4⟩ => ⟨z, h3, hq _ _ h4⟩) he h2) he h1) he h
theorem de_slice (ha : DE X W a wa) (hl : DO X W lo wl) (hu : DO X W hi wh) : DE X W (.Subscript a (.Slice lo hi none p2) pos) (wSl wa wl wh) := by
  refine ⟨pe_imp (pe_slice (sl_str.or sl_list) ha.pe hl.po hu.po) fun σ H Q hh => ?_, wSl_mono ha.mono hl.mono hu.mono⟩
  obtain ⟨B, G, F, δ, R, h⟩ := hh
  refine ⟨B, G, F, δ, R, ha.mono _ _ _ _ _ (fun x δ1 h1 => ?_) (fun _ _ z => z) h⟩
  intro G1 H1 v1 g1 R1 d1
  refine ⟨B, G1, F, δ1, R1, hl.mono _ _ _ _ _ (fun l δ2 h2 => ?_) (xL_up g1) h1⟩
  intro G2 H2 g2 R2
  refine ⟨B, G2, F, δ2, R2, hu.mono _ _ _ _ _ (fun u δ3 h3 => ?_) (xL_up (g1.trans g2)) h2⟩
  intro G3 H3 g3 R3
  obtain ⟨z, hz, hq⟩ := h3
  have d3 := dp_same g3.g (dp_same g2.g d1)
  have gg := g1.trans (g2.trans g3)
  cases d3 <;> simp only [slD, reduceCtorEq] at hz
  · split at hz
    · rename_i hz'
      cases hz
      exact .inl ⟨_, rfl, hz', hq G3 H3 _ gg R3 (.str _)⟩
    · cases hz
  · rename_i a5 xs5 ds5 h5 h6
    cases hz
    refine .inr ⟨_, _, rfl, SqL.of (R3.g _ _ h5), fun p hp => ?_⟩
    have w3 := Gw.new (o := .lst (cutV xs5 l u)) R3.g hp
    refine hq _ _ _ (gg.trans (w3.gr R3.f)) (R3.gw w3) (.lst upd_same (dpAll_same w3.g ?_))
    unfold cutV
    rw [dpAll_len h6]
    exact dpAll_take _ (dpAll_drop _ h6)
/-- xs[::-1] of a list -/
def revD : PyData → Option PyData
  | .list xs => some (.list xs.reverse)
  | _ => none
theorem dpAll_rev {G : Hp} : ∀ {vs : List V} {ds : List PyData}, DqAll G vs ds → DqAll G vs.reverse ds.reverse
  | _, _, .nil => .nil
  | _, _, .cons h t => by
    rw [List.reverse_cons, List.reverse_cons]
    exact dpAll_app (dpAll_rev t) (.cons h .nil)
theorem de_revL {k : Nat} {p1 p2 p3 : Pos} (ha : DE X W a wa) : DE X W (.Subscript a (.Slice none none (some (.UnaryOp .USub (.Constant (.int 1) k p1) p2)) p3) pos) (wUn revD wa) := by
  refine ⟨pe_imp (pe_revL ha.pe) fun σ H Q hh => ?_, wUn_mono ha.mono⟩
  obtain ⟨B, G, F, δ, R, h⟩ := hh
  refine ⟨B, G, F, δ, R, ha.mono _ _ _ _ _ (fun x δ1 h1 => ?_) (fun _ _ z => z) h⟩
  intro G1 H1 v1 g1 R1 d1
  obtain ⟨z, hz, hq⟩ := h1
  cases d1 <;> simp only [revD, reduceCtorEq] at hz
  rename_i a5 xs5 ds5 h5 h6
  cases hz
  refine ⟨_, _, rfl, SqL.of (R1.g _ _ h5), fun p hp => ?_⟩
  have w3 := Gw.new (o := .lst xs5.reverse) R1.g hp
  exact hq _ _ _ (g1.trans (w3.gr R1.f)) (R1.gw w3) (.lst upd_same (dpAll_rev (dpAll_same w3.g h6)))

/-! ### displays -/
def wTup (w : WA) : WE := fun δ Q E => w δ (fun xs δ' => xs.length ≤ sizeLine ∧ Q (.tuple xs) δ') E
theorem wTup_mono (h : MonoE wr) : MonoE (wTup wr) := fun δ Q Q' E E' hq he hh => h _ _ _ _ _ (fun xs δ1 ⟨h1, h2⟩ => ⟨h1, hq _ _ h2⟩) he hh
theorem de_tup {x1} (h : DA X W es wr) : DE X W (.Tuple es x1 pos) (wTup wr) := by
  refine ⟨pe_imp (pe_tup h.pa) fun σ H Q hh => ?_, wTup_mono h.mono⟩
  obtain ⟨B, G, F, δ, R, hh⟩ := hh
  refine ⟨B, G, F, δ, R, h.mono _ _ _ _ _ (fun xs δ1 h1 => ?_) (fun _ _ z => z) hh⟩
  intro G1 H1 vs g1 R1 d1
  obtain ⟨hz, hq⟩ := h1
  refine ⟨by rw [dpAll_len d1]; exact hz, fun p hp => ?_⟩
  have w3 := Gw.new (o := .tup vs) R1.g hp
  exact hq _ _ _ (g1.trans (w3.gr R1.f)) (R1.gw w3) (.tup upd_same (dpAll_same w3.g d1))
def wLstN (w : WA) : WN := fun δ Q E => w δ (fun xs δ' => xs.length ≤ sizeLine ∧ Q (.lst xs) δ') E
theorem wLstN_mono (h : MonoE wr) : MonoE (wLstN wr) := fun δ Q Q' E E' hq he hh => h _ _ _ _ _ (fun xs δ1 ⟨h1, h2⟩ => ⟨h1, hq _ _ h2⟩) he hh
/-- a new list, its own -/
theorem dn_lst (h : DA X W es wr) : DN X W (.List es pos) (wLstN wr) := by
  refine ⟨pe_imp (pe_lst h.pa) fun σ H Q hh => ?_, wLstN_mono h.mono⟩
  obtain ⟨B, G, F, δ, R, hh⟩ := hh
  refine ⟨B, G, F, δ, R, h.mono _ _ _ _ _ (fun xs δ1 h1 => ?_) (fun _ _ z => z) hh⟩
  intro G1 H1 vs g1 R1 d1
  obtain ⟨hz, hq⟩ := h1
  refine ⟨by rw [dpAll_len d1]; exact hz, fun p hp => ?_⟩
  obtain ⟨n1, n2⟩ := R1.fresh hp
  exact hq G1 _ p _ g1 (R1.heap (same_new hp)) n1 n2 (R1.loose hp) upd_same ⟨vs, rfl, d1⟩
/-- a new list, taken as data -/
def wFz (w : WN) : WE := fun δ Q E => w δ (fun k δ' => ∃ xs, k = .lst xs ∧ Q (.list xs) δ') E
theorem wFz_mono {w : WN} (h : MonoE w) : MonoE (wFz w) := fun δ Q Q' E E' hq he hh => h _ _ _ _ _ (fun k δ1 ⟨xs, h1, h2⟩ => ⟨xs, h1, hq _ _ h2⟩) he hh
/-- an address that nobody owns comes into the frozen part -/
theorem Rel.take {K : PySem.W.Frag} {B G F : Hp} {δ : DS} {σ : St} {H : Hp} (R : Rel K B G F δ σ H) {q : Addr} {o : HO} (hg : G q = none) (hl : Loose δ σ q) (hq : H q = some o) : Rel K B (upd G q o) F δ σ H := by
  refine ⟨R.b, fun a u e => ?_, R.f, R.len, fun i s e => ?_, R.sep⟩
  · by_cases ha : a = q
    · subst ha
      rw [upd_same] at e
      cases e
      exact hq
    · rw [upd_ne ha] at e
      exact R.g a u e
  · have z := R.slot i s e
    cases s with
    | no => trivial
    | d x =>
      obtain ⟨v, g1, g2⟩ := z
      exact ⟨v, g1, dp_same (same_new hg) g2⟩
    | scr ns => exact z
    | raw v => exact z
    | own k =>
      obtain ⟨p, ob, h1, h2, h3, h4, h5⟩ := z
      have : p ≠ q := fun z => by
        subst z
        exact hl i k e h1
      exact ⟨p, ob, h1, by rw [upd_ne this]; exact h2, h3, h4, h5.grow (same_new hg)⟩
theorem de_new {w : WN} (h : DN X W e w) : DE X W e (wFz w) := by
  refine ⟨pe_imp h.pe fun σ H Q hh => ?_, wFz_mono h.mono⟩
  obtain ⟨B, G, F, δ, R, hh⟩ := hh
  refine ⟨B, G, F, δ, R, h.mono _ _ _ _ _ (fun k δ1 h1 => ?_) (fun _ _ z => z) hh⟩
  intro G1 H1 q o g1 R1 n1 n2 hl hq ho
  obtain ⟨xs, rfl, h2⟩ := h1
  obtain ⟨vs, rfl, dv⟩ := ho
  exact h2 _ H1 _ (g1.trans (Gr.new n1 n2)) (R1.take n1 hl hq) (.lst upd_same (dpAll_same (same_new n1) dv))
theorem de_lst (h : DA X W es wr) : DE X W (.List es pos) (wFz (wLstN wr)) := de_new (dn_lst h)

/-! ### a look that changes nothing: its answer is flat -/
def flatD : PyData → Bool
  | .none | .bool _ | .int _ | .str _ => true
  | _ => false
def peekS : SD → SD
  | .own (.lst xs) => .d (.list xs)
  | .own (.tw _ xs) => .d (.list xs)
  | .own _ => .no
  | s => s
def wPeek (w : WE) : WE := fun δ Q E => w (δ.map peekS) (fun x _ => flatD x = true ∧ Q x δ) (fun c _ => E c δ)
theorem wPeek_mono {w : WE} (h : MonoE w) : MonoE (wPeek w) := fun δ Q Q' E E' hq he hh => h _ _ _ _ _ (fun x δ1 ⟨h1, h2⟩ => ⟨h1, hq _ _ h2⟩) (fun c _ z => he c δ z) hh
theorem dq_flat {G G' : Hp} {v : V} {d : PyData} (h : Dq G v d) (f : flatD d = true) : Dq G' v d := by
  cases h <;> first | (cases f; done) | constructor
theorem Rel.peek {K : PySem.W.Frag} {B G F : Hp} {δ : DS} {σ : St} {H : Hp} (R : Rel K B G F δ σ H) : Rel K B H H (δ.map peekS) σ H := by
  refine ⟨R.b.trans R.f, Same.refl H, Same.refl H, by simp [R.len], fun i s e => ?_, fun i j k l p _ e => ?_⟩
  · rw [List.getElem?_map] at e
    cases q : δ[i]? with
    | none =>
      rw [q] at e
      cases e
    | some u =>
      rw [q] at e
      cases e
      have z := R.slot i u q
      cases u with
      | no => trivial
      | d x =>
        obtain ⟨v, g1, g2⟩ := z
        exact ⟨v, g1, dp_same R.g g2⟩
      | scr ns => exact z
      | raw v => exact z
      | own k =>
        cases k with
        | lst xs =>
          obtain ⟨p, ob, h1, h2, h3, h4, vs, rfl, h5⟩ := z
          exact ⟨_, h1, .lst h4 (dpAll_same R.g h5)⟩
        | wr t C a b => trivial
        | dk ks => trivial
        | dt ks => trivial
        | tw t zs =>
          obtain ⟨p, ob, h1, h2, h3, h4, rfl, vs, rfl, h5⟩ := z
          exact ⟨_, h1, .lst h4 (dpAll_same R.g h5)⟩
  · exfalso
    rw [List.getElem?_map] at e
    cases q : δ[i]? with
    | none =>
      rw [q] at e
      cases e
    | some u =>
      rw [q] at e
      have e' := Option.some.inj e
      cases u with
      | own k => cases k <;> cases e'
      | no => cases e'
      | d x => cases e'
      | scr ns => cases e'
      | raw v => cases e'
theorem de_peek {w : WE} (h : DE X W e w) : DE X W e (wPeek w) := by
  refine ⟨pe_imp h.pe fun σ H Q hh => ?_, wPeek_mono h.mono⟩
  obtain ⟨B, G, F, δ, R, hh⟩ := hh
  refine ⟨B, H, H, δ.map peekS, R.peek, h.mono _ _ _ _ _ (fun x δ1 h1 => ?_) (fun c δ1 h1 => ?_) hh⟩
  · intro G1 H1 v g1 R1 d1
    exact h1.2 G H1 v (Gr.refl F G) (R.heap R1.f) (dq_flat d1 h1.1)
  · intro G1 H1 g1 R1
    exact h1 G H1 (Gr.refl F G) (R.heap R1.f)
/-- a test that only looks -/
def wPeekT (w : WT) : WT := fun δ Q E => w (δ.map peekS) (fun b _ => Q b δ) (fun c _ => E c δ)
theorem wPeekT_mono {w : WT} (h : MonoE w) : MonoE (wPeekT w) := fun δ Q Q' E E' hq he hh => h _ _ _ _ _ (fun x δ1 h1 => hq _ _ h1) (fun c _ z => he c δ z) hh
theorem dt_peek {w : WT} (h : DT X W e w) : DT X W e (wPeekT w) := by
  refine ⟨pt_imp h.pt fun σ H Q hh => ?_, wPeekT_mono h.mono⟩
  obtain ⟨B, G, F, δ, R, hh⟩ := hh
  refine ⟨B, H, H, δ.map peekS, R.peek, h.mono _ _ _ _ _ (fun x δ1 h1 => ?_) (fun c δ1 h1 => ?_) hh⟩
  · intro G1 H1 g1 R1
    exact h1 G H1 (Gr.refl F G) (R.heap R1.f)
  · intro G1 H1 g1 R1
    exact h1 G H1 (Gr.refl F G) (R.heap R1.f)
end
end RD

/-! The data layer, part d: statements, loops, comprehensions, calls of the text's own defs. -/
namespace RD
open PySem L2
section
variable {X : Cx} {W : WX} {a b c e : Expr} {es : List Expr} {pos : Pos} {wa wb wc we : WE} {wr : WA} {st : Stmt} {rest : List Stmt} {s1 s2 : WS}
theorem WEnds.Le.refl (D : WEnds) : D.Le D := ⟨fun _ h => h, fun _ _ h => h, fun _ h => h, fun _ h => h, fun _ _ h => h⟩
theorem dEnds_up {K : PySem.W.Frag} {B F G G' : Hp} {D : Ends} (g : Gr F G G') : (dEnds K W B F G D).Le (dEnds K W B F G' D) :=
  ⟨fun _ h G2 σ H g2 R => h G2 σ H (g.trans g2) R, fun _ _ h G2 σ H v g2 R d => h G2 σ H v (g.trans g2) R d, fun _ h G2 σ H g2 R => h G2 σ H (g.trans g2) R, fun _ h G2 σ H g2 R => h G2 σ H (g.trans g2) R, fun _ _ h G2 σ H g2 R => h G2 σ H (g.trans g2) R⟩
/-- an exception's wish, from a statement's ends to an expression's -/
theorem xL_of {K : PySem.W.Frag} {B F G : Hp} {D : Ends} {σ : St} (c : Value) (δ : DS) (h : (dEnds K W B F G D).ex c δ) : xL K W B F G σ c δ := fun G' H' g R => h G' σ H' g R
def wNext : WS := fun δ D => D.nx δ
def wSeq (t u : WS) : WS := fun δ D => t δ { D with nx := fun δ' => u δ' D }
theorem wNext_mono : MonoS wNext := fun _ _ _ l h => l.nx _ h
theorem wSeq_mono (h1 : MonoS s1) (h2 : MonoS s2) : MonoS (wSeq s1 s2) := fun δ D D' l h => h1 δ { D with nx := fun δ' => s2 δ' D } { D' with nx := fun δ' => s2 δ' D' } ⟨fun δ' h' => h2 _ _ _ l h', l.rt, l.bk, l.ct, l.ex⟩ h
theorem dss_nil : DSs X W [] wNext := by
  refine ⟨pss_imp pss_nil fun D σ H hh => ?_, wNext_mono⟩
  obtain ⟨B, G, F, δ, R, h⟩ := hh
  exact h G σ H (Gr.refl F G) R
theorem dss_cons (h1 : DSt X W st s1) (h2 : DSs X W rest s2) : DSs X W (st :: rest) (wSeq s1 s2) := by
  refine ⟨pss_imp (pss_cons h1.ps h2.ps) fun D σ H hh => ?_, wSeq_mono h1.mono h2.mono⟩
  obtain ⟨B, G, F, δ, R, h⟩ := hh
  refine ⟨B, G, F, δ, R, h1.mono δ { dEnds X.K W B F G D with nx := fun δ' => s2 δ' (dEnds X.K W B F G D) } _ ⟨fun δ' h' => ?_, fun _ _ z => z, fun _ z => z, fun _ z => z, fun _ _ z => z⟩ h⟩
  intro G' σ' H' g R'
  exact ⟨B, G', F, δ', R', h2.mono _ _ _ (dEnds_up g) h'⟩
theorem dss_one (h1 : DSt X W st s1) : DSs X W [st] s1 := ⟨pss_imp (pss_one h1.ps) fun _ _ _ h => h, h1.mono⟩
/-- a statement that is not reached -/
theorem ds_never : DSt X W st (fun _ _ => False) := ⟨ps_imp ps_never fun D σ H hh => by
  obtain ⟨B, G, F, δ, R, h⟩ := hh
  exact h, fun _ _ _ _ h => h⟩
theorem dss_never {sts : List Stmt} : DSs X W sts (fun _ _ => False) := ⟨pss_imp pss_never fun D σ H hh => by
  obtain ⟨B, G, F, δ, R, h⟩ := hh
  exact h, fun _ _ _ _ h => h⟩
/-- x = e -/
def wSet (i : Nat) (w : WE) : WS := fun δ D => w δ (fun x δ' => D.nx (δ'.set i (.d x))) D.ex
theorem wSet_mono {i : Nat} (h : MonoE we) : MonoS (wSet i we) := fun δ D D' l hh => h _ _ _ _ _ (fun x δ' z => l.nx _ z) l.ex hh
theorem ds_set {i : Nat} {x : Str} {pos' : Pos} (hN : X.N.Nodup) (hi : X.N[i]? = some x) (hx : Loc X.env.scope x) (h : DE X W e we) (hs : swapsWith e (some (.Name x pos')) pos.line X.env = pure false := by rfl)
    (hf : X.fn x = true ∨ X.env.scope.names.lookup x = some .local := by first | exact .inl rfl | exact .inr rfl | assumption) : DSt X W (.Assign [.Name x pos'] e pos) (wSet i we) := by
  refine ⟨ps_imp (ps_set hN hi hx h.pe hs hf) fun D σ H hh => ?_, wSet_mono h.mono⟩
  obtain ⟨B, G, F, δ, R, hh⟩ := hh
  refine ⟨B, G, F, δ, R, h.mono _ _ _ _ _ (fun x δ1 h1 => ?_) xL_of hh⟩
  intro G1 H1 v1 g1 R1 d1
  exact h1 G1 _ H1 g1 (R1.setD d1)
/-- x = a new list -/
def wSetN (i : Nat) (w : WN) : WS := fun δ D => w δ (fun k δ' => D.nx (δ'.set i (.own k))) D.ex
theorem wSetN_mono {i : Nat} {w : WN} (h : MonoE w) : MonoS (wSetN i w) := fun δ D D' l hh => h _ _ _ _ _ (fun x δ' z => l.nx _ z) l.ex hh
theorem ds_setN {i : Nat} {x : Str} {pos' : Pos} {w : WN} (hN : X.N.Nodup) (hi : X.N[i]? = some x) (hx : Loc X.env.scope x) (h : DN X W e w) (hs : swapsWith e (some (.Name x pos')) pos.line X.env = pure false := by rfl)
    (hf : X.fn x = true ∨ X.env.scope.names.lookup x = some .local := by first | exact .inl rfl | exact .inr rfl | assumption) : DSt X W (.Assign [.Name x pos'] e pos) (wSetN i w) := by
  refine ⟨ps_imp (ps_set hN hi hx h.pe hs hf) fun D σ H hh => ?_, wSetN_mono h.mono⟩
  obtain ⟨B, G, F, δ, R, hh⟩ := hh
  refine ⟨B, G, F, δ, R, h.mono _ _ _ _ _ (fun x δ1 h1 => ?_) xL_of hh⟩
  intro G1 H1 q o g1 R1 n1 n2 hl hq ho
  exact h1 G1 _ H1 g1 (R1.setO n1 n2 hq ho hl)
def wRet (w : WE) : WS := fun δ D => w δ (fun x δ' => D.rt x δ') D.ex
theorem wRet_mono (h : MonoE we) : MonoS (wRet we) := fun δ D D' l hh => h _ _ _ _ _ (fun x δ' z => l.rt _ _ z) l.ex hh
theorem ds_ret (h : DE X W e we) : DSt X W (.Return (some e) pos) (wRet we) := by
  refine ⟨ps_imp (ps_ret h.pe) fun D σ H hh => ?_, wRet_mono h.mono⟩
  obtain ⟨B, G, F, δ, R, hh⟩ := hh
  refine ⟨B, G, F, δ, R, h.mono _ _ _ _ _ (fun x δ1 h1 => ?_) xL_of hh⟩
  intro G1 H1 v1 g1 R1 d1
  exact h1 G1 σ H1 v1 g1 R1 d1
def wDrop (w : WE) : WS := fun δ D => w δ (fun _ δ' => D.nx δ') D.ex
theorem wDrop_mono (h : MonoE we) : MonoS (wDrop we) := fun δ D D' l hh => h _ _ _ _ _ (fun x δ' z => l.nx _ z) l.ex hh
theorem ds_expr (h : DE X W e we) (hs : swapsWith e none pos.line X.env = pure false := by rfl) : DSt X W (.Expr e pos) (wDrop we) := by
  refine ⟨ps_imp (ps_expr h.pe hs) fun D σ H hh => ?_, wDrop_mono h.mono⟩
  obtain ⟨B, G, F, δ, R, hh⟩ := hh
  refine ⟨B, G, F, δ, R, h.mono _ _ _ _ _ (fun x δ1 h1 => ?_) xL_of hh⟩
  intro G1 H1 v1 g1 R1 d1
  exact h1 G1 σ H1 g1 R1
def wIfS (t : WT) (u v : WS) : WS := fun δ D => t δ (fun c δ1 => if c = true then u δ1 D else v δ1 D) D.ex
variable {tA : WT}
theorem wIfS_mono (h : MonoE tA) (h1 : MonoS s1) (h2 : MonoS s2) : MonoS (wIfS tA s1 s2) := fun δ D D' l hh => h _ _ _ _ _ (fun k δ' z => by
  split at z
  · rename_i hk
    rw [if_pos hk]
    exact h1 _ _ _ l z
  · rename_i hk
    rw [if_neg hk]
    exact h2 _ _ _ l z) l.ex hh
theorem ds_if {u v : List Stmt} (hc : DT X W c tA) (h1 : DSs X W u s1) (h2 : DSs X W v s2) : DSt X W (.If c u v pos) (wIfS tA s1 s2) := by
  refine ⟨ps_imp (ps_if hc.pt h1.ps h2.ps) fun D σ H hh => ?_, wIfS_mono hc.mono h1.mono h2.mono⟩
  obtain ⟨B, G, F, δ, R, hh⟩ := hh
  refine ⟨B, G, F, δ, R, hc.mono _ _ _ _ _ (fun k δ1 z => ?_) xL_of hh⟩
  intro G1 H1 g1 R1
  split at z
  · rename_i hk
    rw [if_pos hk]
    exact ⟨B, G1, F, δ1, R1, h1.mono _ _ _ (dEnds_up g1) z⟩
  · rename_i hk
    rw [if_neg hk]
    exact ⟨B, G1, F, δ1, R1, h2.mono _ _ _ (dEnds_up g1) z⟩

/-! ### what changes an owned list -/
def wApp (i : Nat) (w : WE) : WS := fun δ D => (∃ xs, δ[i]? = some (.own (.lst xs))) ∧ w δ (fun x δ' => ∃ xs, δ'[i]? = some (.own (.lst xs)) ∧ xs.length < sizeLine ∧ D.nx (δ'.set i (.own (.lst (xs ++ [x]))))) D.ex
theorem wApp_mono {i : Nat} (h : MonoE we) : MonoS (wApp i we) := fun δ D D' l ⟨h0, hh⟩ => ⟨h0, h _ _ _ _ _ (fun x δ' ⟨xs, z1, z2, z3⟩ => ⟨xs, z1, z2, l.nx _ z3⟩) l.ex hh⟩
theorem ds_append {i : Nat} (h : DE X W e we) (p1 : PS X st (tDrop (tBM X.K "list" rAppend (tVar i) (tCons (tD X.K W we) tNil)))) : DSt X W st (wApp i we) := by
  refine ⟨ps_imp p1 fun D σ H hh => ?_, wApp_mono h.mono⟩
  obtain ⟨B, G, F, δ, R, ⟨xs0, e0⟩, hh⟩ := hh
  obtain ⟨p, ob, ep, _, _, hp, vs, rfl, _⟩ := R.own e0
  refine ⟨_, ep, .inl ⟨rfl, _, SqL.of hp⟩, B, G, F, δ, R, h.mono _ _ _ _ _ (fun x δ1 h1 => ?_) xL_of hh⟩
  intro G1 H1 v1 g1 R1 d1
  obtain ⟨xs, e1, hz, h2⟩ := h1
  obtain ⟨p', ob', ep', _, _, hp', vs', rfl, dv⟩ := R1.own e1
  rw [ep] at ep'
  cases ep'
  refine ⟨p, vs', v1, rfl, rfl, hp', by rw [dpAll_len dv]; exact hz, ?_⟩
  exact h2 G1 σ _ g1 (R1.mut e1 ep ⟨_, rfl, dpAll_app dv (.cons d1 .nil)⟩)
def wExt (i : Nat) (w : WE) : WS := fun δ D => (∃ xs, δ[i]? = some (.own (.lst xs))) ∧ w δ (fun x δ' => ∃ xs ys, δ'[i]? = some (.own (.lst xs)) ∧ x = .list ys ∧ xs.length + ys.length ≤ sizeLine ∧ D.nx (δ'.set i (.own (.lst (xs ++ ys))))) D.ex
theorem wExt_mono {i : Nat} (h : MonoE we) : MonoS (wExt i we) := fun δ D D' l ⟨h0, hh⟩ => ⟨h0, h _ _ _ _ _ (fun x δ' ⟨xs, ys, z1, z2, z3, z4⟩ => ⟨xs, ys, z1, z2, z3, l.nx _ z4⟩) l.ex hh⟩
theorem ds_extend {i : Nat} (h : DE X W e we) (p1 : PS X st (tDrop (tBM X.K "list" rExtend (tVar i) (tCons (tD X.K W we) tNil)))) : DSt X W st (wExt i we) := by
  refine ⟨ps_imp p1 fun D σ H hh => ?_, wExt_mono h.mono⟩
  obtain ⟨B, G, F, δ, R, ⟨xs0, e0⟩, hh⟩ := hh
  obtain ⟨p, ob, ep, _, _, hp, vs, rfl, _⟩ := R.own e0
  refine ⟨_, ep, .inl ⟨rfl, _, SqL.of hp⟩, B, G, F, δ, R, h.mono _ _ _ _ _ (fun x δ1 h1 => ?_) xL_of hh⟩
  intro G1 H1 v1 g1 R1 d1
  obtain ⟨xs, ys, e1, rfl, hz, h2⟩ := h1
  obtain ⟨p', ob', ep', n1, _, hp', vs', rfl, dv⟩ := R1.own e1
  rw [ep] at ep'
  cases ep'
  cases d1 with
  | lst h5 h6 =>
    refine ⟨p, _, vs', _, rfl, rfl, hp', R1.g _ _ h5, by rw [dpAll_len dv, dpAll_len h6]; exact hz, ?_⟩
    exact h2 G1 σ _ g1 (R1.mut e1 ep ⟨_, rfl, dpAll_app dv h6⟩)
/-- x[i] = e, x an owned list -/
def wPut (i : Nat) (wv wi : WE) : WS := fun δ D => wv δ (fun v δ1 => (∃ xs, δ1[i]? = some (.own (.lst xs))) ∧ wi δ1 (fun k δ2 => ∃ xs n j, δ2[i]? = some (.own (.lst xs)) ∧ k = .int n ∧ ixN xs.length n = some j ∧ D.nx (δ2.set i (.own (.lst (xs.set j v))))) D.ex) D.ex
theorem wPut_mono {i : Nat} (h1 : MonoE wa) (h2 : MonoE wb) : MonoS (wPut i wa wb) := fun δ D D' l hh => h1 _ _ _ _ _ (fun v δ1 ⟨z0, z⟩ => ⟨z0, h2 _ _ _ _ _ (fun k δ2 ⟨xs, n, j, y1, y2, y3, y4⟩ => ⟨xs, n, j, y1, y2, y3, l.nx _ y4⟩) l.ex z⟩) l.ex hh
theorem ds_put {i : Nat} {ix : Expr} (hv : DE X W e wa) (hi : DE X W ix wb) (p1 : PS X st (tAsg (tD X.K W wa) (gSub (tVar i) (tD X.K W wb) rSetL))) : DSt X W st (wPut i wa wb) := by
  refine ⟨ps_imp p1 fun D σ H hh => ?_, wPut_mono hv.mono hi.mono⟩
  obtain ⟨B, G, F, δ, R, hh⟩ := hh
  refine ⟨B, G, F, δ, R, hv.mono _ _ _ _ _ (fun x δ1 h1 => ?_) xL_of hh⟩
  intro G1 H1 v1 g1 R1 d1
  obtain ⟨⟨xs0, e0⟩, h1⟩ := h1
  obtain ⟨p, ob, ep, _, _, hp, vs, rfl, _⟩ := R1.own e0
  refine ⟨_, ep, B, G1, F, δ1, R1, hi.mono _ _ _ _ _ (fun k δ2 h2 => ?_) (fun c δ' z => xL_up g1 c δ' (xL_of c δ' z)) h1⟩
  intro G2 H2 v2 g2 R2 d2
  obtain ⟨xs, n, j, e1, rfl, hj, h3⟩ := h2
  obtain ⟨p', ob', ep', _, _, hp', vs', rfl, dv⟩ := R2.own e1
  rw [ep] at ep'
  cases ep'
  cases d2
  refine ⟨p, vs', n, j, rfl, rfl, hp', by rw [dpAll_len dv]; exact hj, ?_⟩
  exact h3 G2 σ _ (g1.trans g2) (R2.mut e1 ep ⟨_, rfl, dpAll_set (dp_same g2.g d1) j dv⟩)
/-- x += e, ints -/
def wAug (i : Nat) (f : PyData → PyData → Option PyData) (w : WE) : WS := fun δ D => ∃ x, δ[i]? = some (.d x) ∧ w δ (fun y δ' => ∃ z, f x y = some z ∧ D.nx (δ'.set i (.d z))) D.ex
theorem wAug_mono {i : Nat} {f : PyData → PyData → Option PyData} (h : MonoE we) : MonoS (wAug i f we) := fun δ D D' l ⟨x, h0, hh⟩ => ⟨x, h0, h _ _ _ _ _ (fun y δ' ⟨z, z1, z2⟩ => ⟨z, z1, l.nx _ z2⟩) l.ex hh⟩
theorem ds_aug {i : Nat} {x : Str} {op : Operator} {g : Int → Int → Int} {pos' : Pos} (hN : X.N.Nodup) (hi : X.N[i]? = some x) (hx : Loc X.env.scope x) (h : DE X W e we) (ho : PIp X op (ipI g)) (f : PyData → PyData → Option PyData) (hfg : ∀ x y z, f x y = some z → ∃ i j, x = .int i ∧ y = .int j ∧ z = .int (g i j))
    (hf : X.fn x = true ∨ X.env.scope.names.lookup x = some .local := by first | exact .inl rfl | exact .inr rfl | assumption) : DSt X W (.AugAssign (.Name x pos') op e pos) (wAug i f we) := by
  refine ⟨ps_imp (ps_aug hN hi hx h.pe ho hf) fun D σ H hh => ?_, wAug_mono h.mono⟩
  obtain ⟨B, G, F, δ, R, x0, e0, hh⟩ := hh
  obtain ⟨v0, ev, dv⟩ := R.dat e0
  refine ⟨v0, ev, B, G, F, δ, R, h.mono _ _ _ _ _ (fun y δ1 h1 => ?_) xL_of hh⟩
  intro G1 H1 v1 g1 R1 d1
  obtain ⟨z, hz, h2⟩ := h1
  obtain ⟨i', j', rfl, rfl, rfl⟩ := hfg _ _ _ hz
  cases dv
  cases d1
  exact ⟨_, _, rfl, rfl, h2 G1 _ H1 g1 (R1.setD (.int _))⟩
theorem ds_iadd {i : Nat} {x : Str} {pos' : Pos} (hN : X.N.Nodup) (hi : X.N[i]? = some x) (hx : Loc X.env.scope x) (h : DE X W e we)
    (hf : X.fn x = true ∨ X.env.scope.names.lookup x = some .local := by first | exact .inl rfl | exact .inr rfl | assumption) : DSt X W (.AugAssign (.Name x pos') .Add e pos) (wAug i (fun x y => match x, y with | .int i, .int j => some (.int (i + j)) | _, _ => none) we) :=
  ds_aug hN hi hx h ip_add _ (fun x y z hz => by
    split at hz
    · cases hz
      exact ⟨_, _, rfl, rfl, rfl⟩
    · cases hz) hf
theorem ds_isub {i : Nat} {x : Str} {pos' : Pos} (hN : X.N.Nodup) (hi : X.N[i]? = some x) (hx : Loc X.env.scope x) (h : DE X W e we)
    (hf : X.fn x = true ∨ X.env.scope.names.lookup x = some .local := by first | exact .inl rfl | exact .inr rfl | assumption) : DSt X W (.AugAssign (.Name x pos') .Sub e pos) (wAug i subD we) :=
  ds_aug hN hi hx h ip_sub _ (fun x y z hz => by
    unfold subD at hz
    split at hz
    · cases hz
      exact ⟨_, _, rfl, rfl, rfl⟩
    · cases hz) hf
/-- a, b = e1, e2 -/
def wPar (i j : Nat) (w : WA) : WS := fun δ D => w δ (fun xs δ' => ∃ x y, xs = [x, y] ∧ D.nx ((δ'.set i (.d x)).set j (.d y))) D.ex
theorem wPar_mono {i j : Nat} (h : MonoE wr) : MonoS (wPar i j wr) := fun δ D D' l hh => h _ _ _ _ _ (fun xs δ' ⟨x, y, z1, z2⟩ => ⟨x, y, z1, l.nx _ z2⟩) l.ex hh
theorem ds_par_of {i j : Nat} {s : Stmt} (h : PS X s (tPar i j (tDA X.K W wr))) (m : MonoE wr) : DSt X W s (wPar i j wr) := by
  refine ⟨ps_imp h fun D σ H hh => ?_, wPar_mono m⟩
  obtain ⟨B, G, F, δ, R, hh⟩ := hh
  refine ⟨B, G, F, δ, R, m _ _ _ _ _ (fun xs δ1 h1 => ?_) xL_of hh⟩
  intro G1 H1 vs g1 R1 d1
  obtain ⟨x, y, rfl, h2⟩ := h1
  obtain ⟨v, v', rfl, d2, d3⟩ := dqAll2 d1
  exact ⟨v, v', rfl, h2 G1 _ H1 g1 ((R1.setD d2).setD d3)⟩

/-! ### targets -/
structure TgtOk (K : PySem.W.Frag) (g : TG) (is : List Nat) (set : PyData → DS → Option DS) : Prop where
  run : ∀ (B G F : Hp) (δ : DS) (σ : St) (H : Hp) (v : V) (x : PyData) (δ' : DS) (Q : St → Hp → Prop), Rel K B G F δ σ H → Dq G v x → set x δ = some δ' → (∀ σ', Rel K B G F δ' σ' H → wipe σ' is = wipe σ is → Q σ' H) → g v σ H Q
theorem wipe_set (σ : St) (o : Option V) : ∀ (is : List Nat) (i : Nat), i ∈ is → wipe (σ.set i o) is = wipe σ is
  | [], i, h => by cases h
  | j :: is, i, h => by
    show (wipe (σ.set i o) is).set j none = (wipe σ is).set j none
    by_cases hm : i ∈ is
    · rw [wipe_set σ o is i hm]
    · have e : i = j := (List.mem_cons.mp h).resolve_right hm
      subst e
      apply List.ext_getElem?
      intro n
      have wl : ∀ (l : List Nat) (τ : St) (m : Nat), m ∉ l → (wipe τ l)[m]? = τ[m]? := fun l => by
        induction l with
        | nil => intro τ m _; rfl
        | cons q l ih =>
          intro τ m hm'
          show ((wipe τ l).set q none)[m]? = τ[m]?
          rw [List.getElem?_set_ne (fun z => hm' (by rw [z]; exact List.mem_cons_self)), ih τ m fun z => hm' (List.mem_cons_of_mem _ z)]
      have wg : ∀ (l : List Nat) (τ ρ : St), (∀ m, m ≠ i → τ[m]? = ρ[m]?) → τ.length = ρ.length → ∀ m, m ≠ i → (wipe τ l)[m]? = (wipe ρ l)[m]? := fun l => by
        induction l with
        | nil => intro τ ρ h1 _ m hm'; exact h1 m hm'
        | cons q l ih =>
          intro τ ρ h1 h2 m hm'
          show ((wipe τ l).set q none)[m]? = ((wipe ρ l).set q none)[m]?
          by_cases hq : q = m
          · subst hq
            rw [List.getElem?_set, List.getElem?_set, wipe_length, wipe_length, h2, if_pos rfl, if_pos rfl]
          · rw [List.getElem?_set_ne hq, List.getElem?_set_ne hq, ih τ ρ h1 h2 m hm']
      by_cases hn : i = n
      · subst hn
        rw [List.getElem?_set, List.getElem?_set, wipe_length, wipe_length, List.length_set, if_pos rfl, if_pos rfl]
      · rw [List.getElem?_set_ne hn, List.getElem?_set_ne hn]
        exact wg is _ _ (fun m hm' => List.getElem?_set_ne (Ne.symm hm')) (by simp) n (Ne.symm hn)
def set1 (i : Nat) : PyData → DS → Option DS := fun x δ => some (δ.set i (.d x))
def set2 (i j : Nat) : PyData → DS → Option DS := fun x δ => match x with
  | .tuple [a, b] => some ((δ.set i (.d a)).set j (.d b))
  | _ => none
def set3 (i j l : Nat) : PyData → DS → Option DS := fun x δ => match x with
  | .tuple [a, b, c] => some (((δ.set i (.d a)).set j (.d b)).set l (.d c))
  | _ => none
theorem tgt1 {K : PySem.W.Frag} (i : Nat) : TgtOk K (gName i) [i] (set1 i) := ⟨fun B G F δ σ H v x δ' Q R d e k => by
  cases e
  exact k _ (R.setD d) (wipe_set σ _ [i] i List.mem_cons_self)⟩
theorem tgt2 {K : PySem.W.Frag} (i j : Nat) : TgtOk K (gTup K 2 (gCons (gName i) (gCons (gName j) gNil))) [i, j] (set2 i j) := ⟨fun B G F δ σ H v x δ' Q R d e k => by
  unfold set2 at e
  split at e
  · cases e
    cases d with
    | tup h1 h2 =>
      obtain ⟨u1, u2, rfl, d1, d2⟩ := dqAll2 h2
      refine ⟨_, _, rfl, SqT.of (R.g _ _ h1), rfl, u1, _, rfl, u2, _, rfl, rfl, ?_⟩
      refine k _ ((R.setD d1).setD d2) ?_
      rw [wipe_set _ _ [i, j] j (by simp), wipe_set _ _ [i, j] i (by simp)]
  · cases e⟩
theorem tgt3 {K : PySem.W.Frag} (i j l : Nat) : TgtOk K (gTup K 3 (gCons (gName i) (gCons (gName j) (gCons (gName l) gNil)))) [i, j, l] (set3 i j l) := ⟨fun B G F δ σ H v x δ' Q R d e k => by
  unfold set3 at e
  split at e
  · cases e
    cases d with
    | tup h1 h2 =>
      cases h2 with
      | cons d1 h3 =>
        obtain ⟨u1, u2, rfl, d2, d3⟩ := dqAll2 h3
        refine ⟨_, _, rfl, SqT.of (R.g _ _ h1), rfl, _, _, rfl, u1, _, rfl, u2, _, rfl, rfl, ?_⟩
        refine k _ (((R.setD d1).setD d2).setD d3) ?_
        rw [wipe_set _ _ [i, j, l] l (by simp), wipe_set _ _ [i, j, l] j (by simp), wipe_set _ _ [i, j, l] i (by simp)]
  · cases e⟩

/-! ### what is walked -/
abbrev WI := DS → (List PyData → DS → Prop) → XC → Prop
/-- the i-th item: a value of data that stands, or a new tuple of such -/
def ItemY (G : Hp) (items : List PyData) : Nat → Hp → V → Hp → Prop := fun i H x H' => ∃ d, items[i]? = some d ∧ ((H' = H ∧ Dq G x d) ∨ ∃ T xs ds, x = .ref T ∧ H T = none ∧ H' = upd H T (.tup xs) ∧ d = .tuple ds ∧ DqAll G xs ds)
def GivesI (G : Hp) (J : It) (items : List PyData) : Prop := Walk J items.length (fun H => Same G H) (ItemY G items)
def tDI (K : PySem.W.Frag) (W : WX) (w : WI) : TI := fun σ H R => ∃ B G F δ, Rel K B G F δ σ H ∧ w δ (fun items δ' => ∀ G' H' J, Gr F G G' → Rel K B G' F δ' σ H' → GivesI G' J items → R J H') (xL K W B F G σ)
structure DI (X : Cx) (W : WX) (tg it : Expr) (w : WI) : Prop where
  pi : PI X tg it (tDI X.K W w)
  mono : MonoE w
theorem pi_imp {tg it : Expr} {t t' : TI} (h : PI X tg it t) (i : ∀ σ H R, t' σ H R → t σ H R) : PI X tg it t' := ⟨fun pins s σ H R I q => h.run pins s σ H R I (i σ H R q)⟩
def wIterL (w : WE) : WI := fun δ Q E => w δ (fun x δ' => ∃ ds, x = .list ds ∧ Q ds δ') E
def wIterT (w : WE) : WI := fun δ Q E => w δ (fun x δ' => ∃ ds, x = .tuple ds ∧ Q ds δ') E
def chrs (z : Str) : List PyData := z.cps.toList.map fun c => .str ⟨#[c]⟩
def wIterS (w : WE) : WI := fun δ Q E => w δ (fun x δ' => ∃ z, x = .str z ∧ Q (chrs z) δ') E
def rng (lo hi : Int) : List PyData := (List.range (hi - lo).toNat).map fun (k : Nat) => .int (lo + (k : Int))
def rngDown (lo hi : Int) : List PyData := (List.range (lo - hi).toNat).map fun (k : Nat) => .int (lo - (k : Int))
def fit62 (i : Int) : Prop := -(2 ^ 62) ≤ i ∧ i < 2 ^ 62
def wRng1 (w : WA) : WI := fun δ Q E => w δ (fun xs δ' => ∃ j, xs = [.int j] ∧ fit62 j ∧ Q (rng 0 j) δ') E
def wRng2 (w : WA) : WI := fun δ Q E => w δ (fun xs δ' => ∃ i j, xs = [.int i, .int j] ∧ fit62 i ∧ fit62 j ∧ Q (rng i j) δ') E
def wRng3 (w : WA) : WI := fun δ Q E => w δ (fun xs δ' => ∃ i j, xs = [.int i, .int j, .int (-1)] ∧ fit62 i ∧ fit62 j ∧ Q (rngDown i j) δ') E
theorem gives_seq {K : PySem.W.Frag} {G : Hp} {p : Addr} {vs : List V} {ds : List PyData} (hp : G p = some (.lst vs)) (h : DqAll G vs ds) : GivesI G (Itl K p) ds := by
  unfold GivesI
  rw [← dpAll_len h]
  refine (walk_list (K := K) (a := p) (xs := vs)).mono (fun H s => SqL.of (s _ _ hp)) fun i H x H' _ _ y => ?_
  obtain ⟨e, y⟩ := y
  obtain ⟨d, h1, h2⟩ := dpAll_getV h y
  exact ⟨d, h1, .inl ⟨e, h2⟩⟩
theorem gives_tup {K : PySem.W.Frag} {G : Hp} {p : Addr} {vs : List V} {ds : List PyData} (hp : G p = some (.tup vs)) (h : DqAll G vs ds) : GivesI G (Itt K p) ds := by
  unfold GivesI
  rw [← dpAll_len h]
  refine (walk_tup (K := K) (a := p) (xs := vs)).mono (fun H s => SqT.of (s _ _ hp)) fun i H x H' _ _ y => ?_
  obtain ⟨e, y⟩ := y
  obtain ⟨d, h1, h2⟩ := dpAll_getV h y
  exact ⟨d, h1, .inl ⟨e, h2⟩⟩
theorem gives_str {G : Hp} {z : Str} : GivesI G (Its z) (chrs z) := by
  unfold GivesI
  have e : (chrs z).length = z.cps.size := by simp [chrs]
  rw [e]
  refine walk_str.mono (fun H s => trivial) fun i H x H' _ _ y => ?_
  obtain ⟨eh, c, hc, rfl⟩ := y
  refine ⟨.str ⟨#[c]⟩, ?_, .inl ⟨eh, .str _⟩⟩
  unfold chrs
  rw [List.getElem?_map, Array.getElem?_toList, hc]
  rfl
theorem rng_get {lo hi : Int} {i : Nat} (h : i < (hi - lo).toNat) : (rng lo hi)[i]? = some (.int (lo + (i : Int))) := by
  unfold rng
  rw [List.getElem?_map, List.getElem?_range h]
  rfl
theorem rngDown_get {lo hi : Int} {i : Nat} (h : i < (lo - hi).toNat) : (rngDown lo hi)[i]? = some (.int (lo - (i : Int))) := by
  unfold rngDown
  rw [List.getElem?_map, List.getElem?_range h]
  rfl
theorem gives_rng {G : Hp} {lo hi : Int} : GivesI G (Itr lo (hi - lo).toNat) (rng lo hi) := by
  unfold GivesI
  have e : (rng lo hi).length = (hi - lo).toNat := by simp [rng]
  rw [e]
  refine walk_range.mono (fun H s => trivial) fun i H x H' hi' _ y => ?_
  obtain ⟨eh, rfl⟩ := y
  exact ⟨_, rng_get hi', .inl ⟨eh, .int _⟩⟩
theorem gives_down {G : Hp} {lo hi : Int} : GivesI G (Itc lo (-1) (lo - hi).toNat) (rngDown lo hi) := by
  unfold GivesI
  have e : (rngDown lo hi).length = (lo - hi).toNat := by simp [rngDown]
  rw [e]
  refine walk_rangeC.mono (fun H s => trivial) fun i H x H' hi' _ y => ?_
  obtain ⟨eh, rfl⟩ := y
  refine ⟨_, rngDown_get hi', .inl ⟨eh, ?_⟩⟩
  have : lo + ((i : Nat) : Int) * (-1) = lo - (i : Int) := by omega
  show Dq G (V.int (lo + ((i : Nat) : Int) * (-1))) _
  rw [this]
  exact .int _
variable {tg : Expr}
theorem di_list (h : DE X W e we) : DI X W tg e (wIterL we) := by
  refine ⟨pi_imp (pi_list h.pe) fun σ H Q hh => ?_, fun δ Q Q' E E' hq he hh => h.mono _ _ _ _ _ (fun x δ' ⟨ds, z1, z2⟩ => ⟨ds, z1, hq _ _ z2⟩) he hh⟩
  obtain ⟨B, G, F, δ, R, hh⟩ := hh
  refine ⟨B, G, F, δ, R, h.mono _ _ _ _ _ (fun x δ1 h1 => ?_) (fun _ _ z => z) hh⟩
  intro G1 H1 v1 g1 R1 d1
  obtain ⟨ds, rfl, h2⟩ := h1
  cases d1 with
  | lst h5 h6 => exact ⟨_, rfl, ⟨_, SqL.of (R1.g _ _ h5)⟩, h2 G1 H1 _ g1 R1 (gives_seq h5 h6)⟩
theorem di_tup (h : DE X W e we) : DI X W tg e (wIterT we) := by
  refine ⟨pi_imp (pi_tup h.pe) fun σ H Q hh => ?_, fun δ Q Q' E E' hq he hh => h.mono _ _ _ _ _ (fun x δ' ⟨ds, z1, z2⟩ => ⟨ds, z1, hq _ _ z2⟩) he hh⟩
  obtain ⟨B, G, F, δ, R, hh⟩ := hh
  refine ⟨B, G, F, δ, R, h.mono _ _ _ _ _ (fun x δ1 h1 => ?_) (fun _ _ z => z) hh⟩
  intro G1 H1 v1 g1 R1 d1
  obtain ⟨ds, rfl, h2⟩ := h1
  cases d1 with
  | tup h5 h6 => exact ⟨_, rfl, ⟨_, SqT.of (R1.g _ _ h5)⟩, h2 G1 H1 _ g1 R1 (gives_tup h5 h6)⟩
theorem di_str (h : DE X W e we) : DI X W tg e (wIterS we) := by
  refine ⟨pi_imp (pi_str h.pe) fun σ H Q hh => ?_, fun δ Q Q' E E' hq he hh => h.mono _ _ _ _ _ (fun x δ' ⟨ds, z1, z2⟩ => ⟨ds, z1, hq _ _ z2⟩) he hh⟩
  obtain ⟨B, G, F, δ, R, hh⟩ := hh
  refine ⟨B, G, F, δ, R, h.mono _ _ _ _ _ (fun x δ1 h1 => ?_) (fun _ _ z => z) hh⟩
  intro G1 H1 v1 g1 R1 d1
  obtain ⟨z, rfl, h2⟩ := h1
  cases d1
  exact ⟨_, rfl, h2 G1 H1 _ g1 R1 gives_str⟩
variable {p : Pos}
theorem di_range1 (hm : X.mg "range" = none) (ha : DA X W [a] wr) (hg : Gl X "range" := by rfl) (hs : starEach [a] X.env = [(false, eval a X.env)] := by rfl) : DI X W tg (.Call (.Name "range" p) [a] [] pos) (wRng1 wr) := by
  refine ⟨pi_imp (pi_range1 hg hm ha.pa hs) fun σ H Q hh => ?_, fun δ Q Q' E E' hq he hh => ha.mono _ _ _ _ _ (fun x δ' ⟨j, z1, z2, z3⟩ => ⟨j, z1, z2, hq _ _ z3⟩) he hh⟩
  obtain ⟨B, G, F, δ, R, hh⟩ := hh
  refine ⟨B, G, F, δ, R, ha.mono _ _ _ _ _ (fun x δ1 h1 => ?_) (fun _ _ z => z) hh⟩
  intro G1 H1 vs g1 R1 d1
  obtain ⟨j, rfl, hj, h2⟩ := h1
  obtain ⟨v, rfl, d2⟩ := dqAll1 d1
  cases d2
  refine ⟨j, rfl, hj.1, hj.2, h2 G1 H1 _ g1 R1 ?_⟩
  have := gives_rng (G := G1) (lo := 0) (hi := j)
  rw [Int.sub_zero] at this
  exact this
theorem di_range2 (hm : X.mg "range" = none) (ha : DA X W [a, b] wr) (hg : Gl X "range" := by rfl) (hs : starEach [a, b] X.env = [(false, eval a X.env), (false, eval b X.env)] := by rfl) (hs2 : starEach [b] X.env = [(false, eval b X.env)] := by rfl) :
    DI X W tg (.Call (.Name "range" p) [a, b] [] pos) (wRng2 wr) := by
  refine ⟨pi_imp (pi_range2 hg hm ha.pa hs hs2) fun σ H Q hh => ?_, fun δ Q Q' E E' hq he hh => ha.mono _ _ _ _ _ (fun x δ' ⟨i, j, z1, z2, z3, z4⟩ => ⟨i, j, z1, z2, z3, hq _ _ z4⟩) he hh⟩
  obtain ⟨B, G, F, δ, R, hh⟩ := hh
  refine ⟨B, G, F, δ, R, ha.mono _ _ _ _ _ (fun x δ1 h1 => ?_) (fun _ _ z => z) hh⟩
  intro G1 H1 vs g1 R1 d1
  obtain ⟨i, j, rfl, hi, hj, h2⟩ := h1
  obtain ⟨v, v', rfl, d2, d3⟩ := dqAll2 d1
  cases d2
  cases d3
  exact ⟨i, j, rfl, ⟨hi.1, hi.2, hj.1, hj.2⟩, h2 G1 H1 _ g1 R1 gives_rng⟩
theorem di_range3 (hm : X.mg "range" = none) (ha : DA X W [a, b, c] wr) (hg : Gl X "range" := by rfl) (hs : starEach [a, b, c] X.env = (false, eval a X.env) :: starEach [b, c] X.env := by rfl) (hpl : (backTo pos (starEach [b, c] X.env)).any (·.1) = false := by rfl) :
    DI X W tg (.Call (.Name "range" p) [a, b, c] [] pos) (wRng3 wr) := by
  refine ⟨pi_imp (pi_range3 hg hm ha.pa hs hpl) fun σ H Q hh => ?_, fun δ Q Q' E E' hq he hh => ha.mono _ _ _ _ _ (fun x δ' ⟨i, j, z1, z2, z3, z4⟩ => ⟨i, j, z1, z2, z3, hq _ _ z4⟩) he hh⟩
  obtain ⟨B, G, F, δ, R, hh⟩ := hh
  refine ⟨B, G, F, δ, R, ha.mono _ _ _ _ _ (fun x δ1 h1 => ?_) (fun _ _ z => z) hh⟩
  intro G1 H1 vs g1 R1 d1
  obtain ⟨i, j, rfl, hi, hj, h2⟩ := h1
  cases d1 with
  | cons d0 d1 =>
    obtain ⟨v, v', rfl, d2, d3⟩ := dqAll2 d1
    cases d0
    cases d2
    cases d3
    exact ⟨i, j, -1, _, rfl, RgC.neg hi.1 hi.2 hj.1 hj.2, h2 G1 H1 _ g1 R1 gives_down⟩
end
end RD

/-! The data layer, part e: loops, comprehensions, calls of the text's own defs. -/
namespace RD
open PySem L2
section
variable {X : Cx} {W : WX} {a b c e : Expr} {es : List Expr} {pos : Pos} {wa wb wc we : WE} {wr : WA} {st : Stmt} {rest : List Stmt} {s1 s2 : WS} {tA : WT} {wi : WI} {tg it : Expr}
/-! ### for -/
def wForL (set : PyData → DS → Option DS) (body : WS) : List PyData → WS
  | [], δ, D => D.nx δ
  | x :: xs, δ, D => ∃ δ1, set x δ = some δ1 ∧ body δ1 { D with nx := fun δ' => wForL set body xs δ' D, ct := fun δ' => wForL set body xs δ' D, bk := D.nx }
theorem wForL_mono {set : PyData → DS → Option DS} (h : MonoS s1) : ∀ xs, MonoS (wForL set s1 xs)
  | [], _, _, _, l, z => l.nx _ z
  | x :: xs, δ, D, D', l, ⟨δ1, e1, z⟩ => ⟨δ1, e1, h δ1 { D with nx := fun δ' => wForL set s1 xs δ' D, ct := fun δ' => wForL set s1 xs δ' D, bk := D.nx } _ ⟨fun _ y => wForL_mono h xs _ _ _ l y, l.rt, l.nx, fun _ y => wForL_mono h xs _ _ _ l y, l.ex⟩ z⟩
def wFor (wi : WI) (set : PyData → DS → Option DS) (body : WS) : WS := fun δ D => wi δ (fun items δ' => wForL set body items δ' D) D.ex
theorem wFor_mono {set : PyData → DS → Option DS} (hi : MonoE wi) (h : MonoS s1) : MonoS (wFor wi set s1) := fun δ D D' l z => hi _ _ _ _ _ (fun items δ' y => wForL_mono h items _ _ _ l y) l.ex z
/-- one item taken: the state with it, its data -/
theorem item_step {K : PySem.W.Frag} {B F G G1 : Hp} {δ : DS} {σ : St} {H H' : Hp} {items : List PyData} {i : Nat} {x : V} (g : Gr F G G1) (R : Rel K B G1 F δ σ H) (y : ItemY G items i H x H') :
    ∃ d G2, items[i]? = some d ∧ Gr F G1 G2 ∧ Rel K B G2 F δ σ H' ∧ Dq G2 x d ∧ Gw G1 H G2 H' := by
  obtain ⟨d, hd, y⟩ := y
  rcases y with ⟨rfl, dx⟩ | ⟨T, xs, ds, rfl, hT, rfl, rfl, dx⟩
  · exact ⟨d, G1, hd, Gr.refl F G1, R, dp_same g.g dx, Gw.refl R.g⟩
  · have w := Gw.new (o := .tup xs) R.g hT
    exact ⟨_, _, hd, w.gr R.f, R.gw w, .tup upd_same (dpAll_same w.g (dpAll_same g.g dx)), w⟩
theorem drop_at {α : Type} {l : List α} {i : Nat} {x : α} (h : l[i]? = some x) : l.drop i = x :: l.drop (i + 1) := by
  obtain ⟨h1, h2⟩ := List.getElem?_eq_some_iff.mp h
  rw [List.drop_eq_getElem_cons h1, h2]
theorem ds_for {body : List Stmt} {g : TG} {is : List Nat} {set : PyData → DS → Option DS} (hp : PassesOwn (model X.prog X.w) X.A X.env X.xe) (hc : X.calm = true) (hi : DI X W tg it wi) (hg : PG X tg g) (ht : TgtOk X.K g is set) (hb : DSs X W body s1)
    (hs : ∀ x, foldedSetIterable it X.env x = pure x := by intro _; rfl) : DSt X W (.For tg it body [] pos) (wFor wi set s1) := by
  refine ⟨ps_imp (ps_for hp hc hi.pi hg hb.ps hs) fun D σ H hh => ?_, wFor_mono hi.mono hb.mono⟩
  obtain ⟨B, G, F, δ, R, hh⟩ := hh
  refine ⟨B, G, F, δ, R, hi.mono _ _ _ _ _ (fun items δ1 h1 => ?_) xL_of hh⟩
  intro G1 H1 J g1 R1 gv
  refine for_it gv (fun i σ' H' => ∃ G2 δ2, Gr F G1 G2 ∧ Rel X.K B G2 F δ2 σ' H' ∧ wForL set s1 (items.drop i) δ2 (dEnds X.K W B F G2 D)) ⟨G1, δ1, Gr.refl F G1, R1, ?_⟩ ?_ ?_ ?_
  · rw [List.drop_zero]
    exact wForL_mono hb.mono items _ _ _ (dEnds_up g1) h1
  · rintro i σ' H' _ ⟨G2, δ2, g2, R2, _⟩
    exact g2.g.trans R2.g
  · rintro i x σ' H' H2 hlt ⟨G2, δ2, g2, R2, h2⟩ y
    obtain ⟨d, G3, hd, g3, R3, d3, _⟩ := item_step g2 R2 y
    rw [drop_at hd] at h2
    obtain ⟨δ3, e3, h3⟩ := h2
    refine ht.run B G3 F δ2 σ' H2 x d δ3 _ R3 d3 e3 fun σ3 R4 _ => ?_
    have up : ∀ {G4 : Hp} {δ4 : DS} {σ4 : St} {H4 : Hp}, wForL set s1 (items.drop (i + 1)) δ4 (dEnds X.K W B F G2 D) → Gr F G3 G4 → Rel X.K B G4 F δ4 σ4 H4 → ∃ G5 δ5, Gr F G1 G5 ∧ Rel X.K B G5 F δ5 σ4 H4 ∧ wForL set s1 (items.drop (i + 1)) δ5 (dEnds X.K W B F G5 D) :=
      fun {G4 δ4 σ4 H4} z g4 R5 => ⟨G4, δ4, (g2.trans g3).trans g4, R5, wForL_mono hb.mono _ _ _ _ (dEnds_up (g3.trans g4)) z⟩
    refine ⟨B, G3, F, δ3, R4, hb.mono δ3 { dEnds X.K W B F G2 D with nx := fun δ' => wForL set s1 (items.drop (i + 1)) δ' (dEnds X.K W B F G2 D), ct := fun δ' => wForL set s1 (items.drop (i + 1)) δ' (dEnds X.K W B F G2 D), bk := (dEnds X.K W B F G2 D).nx } _ ⟨fun δ4 z => ?_, fun v δ4 z => ?_, fun δ4 z => ?_, fun δ4 z => ?_, fun cc δ4 z => ?_⟩ h3⟩
    · intro G4 σ4 H4 g4 R5
      exact up z g4 R5
    · intro G4 σ4 H4 u g4 R5 du
      exact z G4 σ4 H4 u (g3.trans g4) R5 du
    · intro G4 σ4 H4 g4 R5
      exact z G4 σ4 H4 (g3.trans g4) R5
    · intro G4 σ4 H4 g4 R5
      exact up z g4 R5
    · intro G4 σ4 H4 g4 R5
      exact z G4 σ4 H4 (g3.trans g4) R5
  · rintro σ' H' ⟨G2, δ2, g2, R2, h2⟩
    rw [List.drop_length] at h2
    exact h2 G2 σ' H' (Gr.refl F G2) R2

/-! ### while -/
def wWh (t : WT) (body : WS) : Nat → WS
  | 0 => fun _ _ => False
  | n + 1 => fun δ D => t δ (fun b δ1 => if b = true then body δ1 { D with nx := fun δ' => wWh t body n δ' D, ct := fun δ' => wWh t body n δ' D, bk := D.nx } else D.nx δ1) D.ex
theorem wWh_mono (ht : MonoE tA) (h : MonoS s1) : ∀ n, MonoS (wWh tA s1 n)
  | 0, _, _, _, _, z => z
  | n + 1, δ, D, D', l, z => ht _ _ _ _ _ (fun b δ1 y => by
    split at y
    · rename_i hk
      rw [if_pos hk]
      exact h δ1 { D with nx := fun δ' => wWh tA s1 n δ' D, ct := fun δ' => wWh tA s1 n δ' D, bk := D.nx } _ ⟨fun _ q => wWh_mono ht h n _ _ _ l q, l.rt, l.nx, fun _ q => wWh_mono ht h n _ _ _ l q, l.ex⟩ y
    · rename_i hk
      rw [if_neg hk]
      exact l.nx _ y) l.ex z
def wWhile (t : WT) (body : WS) : WS := fun δ D => ∃ n, wWh t body n δ D
theorem ds_while {body : List Stmt} (hp : PassesOwn (model X.prog X.w) X.A X.env X.xe) (hc : DT X W c tA) (hb : DSs X W body s1) : DSt X W (.While c body [] pos) (wWhile tA s1) := by
  refine ⟨ps_imp (ps_while hp hc.pt hb.ps) fun D σ H hh => ?_, fun δ D D' l ⟨n, z⟩ => ⟨n, wWh_mono hc.mono hb.mono n _ _ _ l z⟩⟩
  obtain ⟨B, G, F, δ, R, n, hh⟩ := hh
  refine ⟨fun m σ' H' => ∃ G1 δ1, Gr F G G1 ∧ Rel X.K B G1 F δ1 σ' H' ∧ wWh tA s1 m δ1 (dEnds X.K W B F G1 D), ⟨n, G, δ, Gr.refl F G, R, hh⟩, ?_⟩
  rintro m σ' H' ⟨G1, δ1, g1, R1, h1⟩
  cases m with
  | zero => exact h1.elim
  | succ m =>
    refine ⟨B, G1, F, δ1, R1, hc.mono _ _ _ _ _ (fun k δ2 h2 => ?_) xL_of h1⟩
    intro G2 H2 g2 R2
    split at h2
    · rename_i hk
      rw [if_pos hk]
      refine ⟨fun σ3 H3 => ∃ G3 δ3, Gr F G2 G3 ∧ Rel X.K B G3 F δ3 σ3 H3 ∧ wWh tA s1 m δ3 (dEnds X.K W B F G3 D), fun σ3 H3 ⟨G3, δ3, g3, R3, h3⟩ => ⟨m, Nat.lt_succ_self m, G3, δ3, g1.trans (g2.trans g3), R3, h3⟩, ?_⟩
      refine ⟨B, G2, F, δ2, R2, hb.mono δ2 { dEnds X.K W B F G1 D with nx := fun δ' => wWh tA s1 m δ' (dEnds X.K W B F G1 D), ct := fun δ' => wWh tA s1 m δ' (dEnds X.K W B F G1 D), bk := (dEnds X.K W B F G1 D).nx } _ ⟨fun δ4 z => ?_, fun v δ4 z => ?_, fun δ4 z => ?_, fun δ4 z => ?_, fun cc δ4 z => ?_⟩ h2⟩
      · intro G4 σ4 H4 g4 R5
        exact ⟨G4, δ4, g4, R5, wWh_mono hc.mono hb.mono m _ _ _ (dEnds_up (g2.trans g4)) z⟩
      · intro G4 σ4 H4 u g4 R5 du
        exact z G4 σ4 H4 u (g2.trans g4) R5 du
      · intro G4 σ4 H4 g4 R5
        exact z G4 σ4 H4 (g2.trans g4) R5
      · intro G4 σ4 H4 g4 R5
        exact ⟨G4, δ4, g4, R5, wWh_mono hc.mono hb.mono m _ _ _ (dEnds_up (g2.trans g4)) z⟩
      · intro G4 σ4 H4 g4 R5
        exact z G4 σ4 H4 (g2.trans g4) R5
    · rename_i hk
      rw [if_neg hk]
      exact h2 G2 σ' H2 g2 R2

/-! ### comprehensions -/
def wipeD (δ : DS) : List Nat → DS
  | [] => δ
  | v :: vs => (wipeD δ vs).set v .no
def keepS : Option SD → SD
  | some (.own _) => .no
  | some s => s
  | none => .no
/-- the slots of the block's names as they were -/
def restoreD (δ δ0 : DS) : List Nat → DS
  | [] => δ
  | v :: vs => (restoreD δ δ0 vs).set v (keepS δ0[v]?)
abbrev noX : XC := fun _ _ => False
def wLcL (set : PyData → DS → Option DS) (is : List Nat) (wt : WT) (we : WE) : List PyData → DS → List PyData → (List PyData → DS → Prop) → Prop
  | [], δ, acc, Q => Q acc δ
  | x :: xs, δ, acc, Q => ∃ δ1, set x δ = some δ1 ∧ wt δ1 (fun b δ2 => if b = true then we δ2 (fun y δ3 => acc.length < sizeLine ∧ wLcL set is wt we xs (wipeD δ3 is) (acc ++ [y]) Q) noX else wLcL set is wt we xs (wipeD δ2 is) acc Q) noX
theorem wLcL_mono {set : PyData → DS → Option DS} {is : List Nat} (ht : MonoE tA) (he : MonoE we) {Q Q' : List PyData → DS → Prop} (hq : ∀ x δ, Q x δ → Q' x δ) : ∀ xs δ acc, wLcL set is tA we xs δ acc Q → wLcL set is tA we xs δ acc Q'
  | [], δ, acc, z => hq _ _ z
  | x :: xs, δ, acc, ⟨δ1, e1, z⟩ => ⟨δ1, e1, ht _ _ _ _ _ (fun b δ2 y => by
    split at y
    · rename_i hk
      rw [if_pos hk]
      exact he _ _ _ _ _ (fun v δ3 ⟨h1, h2⟩ => ⟨h1, wLcL_mono ht he hq xs _ _ h2⟩) (fun _ _ z => z) y
    · rename_i hk
      rw [if_neg hk]
      exact wLcL_mono ht he hq xs _ _ y) (fun _ _ z => z) z⟩
def wLc (wi : WI) (set : PyData → DS → Option DS) (is : List Nat) (wt : WT) (we : WE) : WN := fun δ Q E => wi δ (fun items δ' => wLcL set is wt we items (wipeD δ' is) [] (fun acc δ2 => Q (.lst acc) (restoreD δ2 δ' is))) E
theorem wLc_mono {set : PyData → DS → Option DS} {is : List Nat} (hi : MonoE wi) (ht : MonoE tA) (he : MonoE we) : MonoE (wLc wi set is tA we) := fun δ Q Q' E E' hq hx z => hi _ _ _ _ _ (fun items δ' y => wLcL_mono ht he (fun _ _ q => hq _ _ q) items _ _ y) hx z
def wYes : WT := fun δ Q _ => Q true δ
theorem wYes_mono : MonoE wYes := fun _ _ _ _ _ hq _ h => hq _ _ h
theorem Rel.wiped {K : PySem.W.Frag} {B G F : Hp} {δ : DS} {σ : St} {H : Hp} (R : Rel K B G F δ σ H) : ∀ is : List Nat, Rel K B G F (wipeD δ is) (wipe σ is) H
  | [] => R
  | v :: vs => (R.wiped vs).setN
theorem Rel.change {K : PySem.W.Frag} {B G F : Hp} {δ : DS} {σ : St} {H : Hp} (R : Rel K B G F δ σ H) {q : Addr} {o : HO} (hg : G q = none) (hf : F q = none) (hl : Loose δ σ q) : Rel K B G F δ σ (upd H q o) := by
  have sm : ∀ {M : Hp}, M q = none → Same M H → Same M (upd H q o) := fun {M} hm s a u ea => by
    rw [upd_ne (ne_of_none ea hm)]
    exact s a u ea
  refine ⟨R.b, sm hg R.g, sm hf R.f, R.len, fun i s e => ?_, R.sep⟩
  have z := R.slot i s e
  cases s with
  | no => trivial
  | d x => exact z
  | scr ns => exact z
  | raw v => exact z
  | own k =>
    obtain ⟨p, ob, h1, h2, h3, h4, h5⟩ := z
    have : p ≠ q := fun z => by
      subst z
      exact hl i k e h1
    exact ⟨p, ob, h1, h2, h3, by rw [upd_ne this]; exact h4, h5⟩
theorem wipe_at (σ : St) : ∀ (is : List Nat) (m : Nat), m ∉ is → (wipe σ is)[m]? = σ[m]?
  | [], _, _ => rfl
  | q :: l, m, h => by
    show ((wipe σ l).set q none)[m]? = σ[m]?
    rw [List.getElem?_set_ne (fun z => h (by rw [z]; exact List.mem_cons_self)), wipe_at σ l m fun z => h (List.mem_cons_of_mem _ z)]
theorem restore_at (δ δ0 : DS) : ∀ (is : List Nat) (m : Nat), m ∉ is → (restoreD δ δ0 is)[m]? = δ[m]?
  | [], _, _ => rfl
  | q :: l, m, h => by
    show ((restoreD δ δ0 l).set q _)[m]? = δ[m]?
    rw [List.getElem?_set_ne (fun z => h (by rw [z]; exact List.mem_cons_self)), restore_at δ δ0 l m fun z => h (List.mem_cons_of_mem _ z)]
theorem restore_len (δ δ0 : DS) : ∀ is : List Nat, (restoreD δ δ0 is).length = δ.length
  | [] => rfl
  | q :: l => by
    show ((restoreD δ δ0 l).set q _).length = δ.length
    rw [List.length_set, restore_len δ δ0 l]
theorem restore_in (δ δ0 : DS) : ∀ (is : List Nat) (m : Nat), m ∈ is → m < δ.length → (restoreD δ δ0 is)[m]? = some (keepS δ0[m]?)
  | [], _, h, _ => by cases h
  | q :: l, m, h, hl => by
    show ((restoreD δ δ0 l).set q _)[m]? = _
    by_cases hq : q = m
    · subst hq
      rw [List.getElem?_set_self (by rw [restore_len]; exact hl)]
    · rw [List.getElem?_set_ne hq]
      exact restore_in δ δ0 l m ((List.mem_cons.mp h).resolve_left fun z => hq z.symm) hl
theorem keep_own {o : Option SD} {k : OK} : keepS o ≠ .own k := fun z => by
  cases o with
  | none => cases z
  | some s => cases s <;> cases z
/-- back from the block -/
theorem Rel.restore {K : PySem.W.Frag} {B G0 G F : Hp} {δ0 δ : DS} {σ : St} {H0 H : Hp} {is : List Nat} (R0 : Rel K B G0 F δ0 σ H0) (g : Same G0 G) (R : Rel K B G F δ (wipe σ is) H) : Rel K B G F (restoreD δ δ0 is) σ H := by
  have ln : δ.length = σ.length := by rw [R.len, wipe_length]
  have at_ : ∀ {m : Nat} {s : SD}, (restoreD δ δ0 is)[m]? = some s → (m ∈ is ∧ s = keepS δ0[m]?) ∨ (m ∉ is ∧ δ[m]? = some s ∧ (wipe σ is)[m]? = σ[m]?) := fun {m s} e => by
    by_cases hm : m ∈ is
    · have hl : m < δ.length := by
        have := (List.getElem?_eq_some_iff.mp e).1
        rwa [restore_len] at this
      rw [restore_in δ δ0 is m hm hl] at e
      exact .inl ⟨hm, (Option.some.inj e).symm⟩
    · rw [restore_at δ δ0 is m hm] at e
      exact .inr ⟨hm, e, wipe_at σ is m hm⟩
  refine ⟨R.b, R.g, R.f, by rw [restore_len, ln], fun m s e => ?_, fun i j k l p hne e1 e2 e3 e4 => ?_⟩
  · rcases at_ e with ⟨_, rfl⟩ | ⟨_, e', q⟩
    · cases q : δ0[m]? with
      | none => trivial
      | some u =>
        have z := R0.slot m u q
        cases u with
        | no => trivial
        | own k => trivial
        | d x =>
          obtain ⟨v, h1, h2⟩ := z
          exact ⟨v, h1, dp_same g h2⟩
        | scr ns => exact z
        | raw v => exact z
    · have z := R.slot m s e'
      rw [q] at z
      exact z
  · rcases at_ e1 with ⟨_, q⟩ | ⟨_, e1', q1⟩
    · exact keep_own q.symm
    · rcases at_ e2 with ⟨_, q⟩ | ⟨_, e2', q2⟩
      · exact keep_own q.symm
      · exact R.sep i j k l p hne e1' e2' (q1.trans e3) (q2.trans e4)
/-- the list that a comprehension fills stands in the frame while an element is reckoned -/
theorem Rel.hold {K : PySem.W.Frag} {B G F : Hp} {δ : DS} {σ : St} {H : Hp} (R : Rel K B G F δ σ H) {q : Addr} {o : HO} (hf : F q = none) (hl : Loose δ σ q) (hq : H q = some o) : Rel K B G (upd F q o) δ σ H := by
  refine R.frame (fun a u e => ?_) (R.b.trans (same_new hf)) fun i k p e ep n => ?_
  · by_cases ha : a = q
    · subst ha
      rw [upd_same] at e
      cases e
      exact hq
    · rw [upd_ne ha] at e
      exact R.f a u e
  · have : p ≠ q := fun z => by
      subst z
      exact hl i k e ep
    rw [upd_ne this]
    exact n
theorem Rel.letGo {K : PySem.W.Frag} {B G F : Hp} {δ : DS} {σ : St} {H : Hp} {q : Addr} {o : HO} (R : Rel K B G (upd F q o) δ σ H) (b : Same B F) (hf : F q = none) : Rel K B G F δ σ H ∧ Loose δ σ q ∧ H q = some o := by
  have hl : Loose δ σ q := fun i k e ep => by
    obtain ⟨p, ob, h1, _, h3, _, _⟩ := R.own e
    rw [ep] at h1
    cases h1
    rw [upd_same] at h3
    cases h3
  refine ⟨R.frame ((same_new hf).trans R.f) b fun i k p e ep n => ?_, hl, R.f _ _ upd_same⟩
  have : p ≠ q := fun z => by
    subst z
    exact hl i k e ep
  rwa [upd_ne this] at n
theorem Gr.held {F G G' : Hp} {q : Addr} {o : HO} (g : Gr (upd F q o) G G') (h : G q = none) (hf : F q = none) (ho : ∀ xs, o ≠ .tup xs) : Gr F G G' ∧ G' q = none :=
  ⟨g.frame fun a ha => same_mu (same_new hf) ha, g.n q ⟨o, upd_same, ho⟩ h⟩
theorem wipe_in (σ : St) {m : Nat} : ∀ l : List Nat, m ∈ l → (wipe σ l)[m]? = if m < σ.length then some none else none
  | [], h => by cases h
  | q :: l, h => by
    show ((wipe σ l).set q none)[m]? = _
    by_cases hq : q = m
    · subst hq
      rw [List.getElem?_set, if_pos rfl, wipe_length]
    · rw [List.getElem?_set_ne hq]
      exact wipe_in σ l ((List.mem_cons.mp h).resolve_left fun z => hq z.symm)
theorem wipe_wipe (l : List Nat) (σ : St) : wipe (wipe σ l) l = wipe σ l := by
  apply List.ext_getElem?
  intro m
  by_cases hm : m ∈ l
  · rw [wipe_in _ l hm, wipe_in _ l hm, wipe_length]
  · rw [wipe_at _ l m hm]
theorem wipeD_len (δ : DS) : ∀ l : List Nat, (wipeD δ l).length = δ.length
  | [] => rfl
  | q :: l => by
    show ((wipeD δ l).set q _).length = δ.length
    rw [List.length_set, wipeD_len δ l]
theorem wipeD_at (δ : DS) : ∀ (is : List Nat) (m : Nat), m ∉ is → (wipeD δ is)[m]? = δ[m]?
  | [], _, _ => rfl
  | q :: l, m, h => by
    show ((wipeD δ l).set q .no)[m]? = δ[m]?
    rw [List.getElem?_set_ne (fun z => h (by rw [z]; exact List.mem_cons_self)), wipeD_at δ l m fun z => h (List.mem_cons_of_mem _ z)]
theorem wipeD_in (δ : DS) {m : Nat} : ∀ l : List Nat, m ∈ l → m < δ.length → (wipeD δ l)[m]? = some .no
  | [], h, _ => by cases h
  | q :: l, h, hl => by
    show ((wipeD δ l).set q .no)[m]? = _
    by_cases hq : q = m
    · subst hq
      rw [List.getElem?_set_self (by rw [wipeD_len]; exact hl)]
    · rw [List.getElem?_set_ne hq]
      exact wipeD_in δ l ((List.mem_cons.mp h).resolve_left fun z => hq z.symm) hl
theorem wiped_own {δ : DS} {σ : St} {m : Nat} {k : OK} {o : Option (Option V)} (is : List Nat) (e : (wipeD δ is)[m]? = some (.own k)) (es : (wipe σ is)[m]? = o) : δ[m]? = some (.own k) ∧ σ[m]? = o := by
  by_cases hm : m ∈ is
  · have hl : m < δ.length := by
      have := (List.getElem?_eq_some_iff.mp e).1
      rwa [wipeD_len] at this
    rw [wipeD_in δ is hm hl] at e
    cases e
  · rw [wipeD_at δ is m hm] at e
    rw [wipe_at σ is m hm] at es
    exact ⟨e, es⟩
/-- W0: in a comprehension nothing is raised -/
abbrev W0 : WX := fun _ _ _ _ => False
theorem tLc_of {K : PySem.W.Frag} {g : TG} {is : List Nat} {set : PyData → DS → Option DS} (hi : MonoE wi) (ht : TgtOk K g is set) (mt : MonoE tA) (me : MonoE we) (σ : St) (H : Hp) (Q : VK) (hh : tDN K W (wLc wi set is tA we) σ H Q) :
    tLc (tDI K W wi) g (tDT K W0 tA) (tD K W0 we) is σ H Q := by
  obtain ⟨B, G, F, δ, R, hh⟩ := hh
  refine ⟨B, G, F, δ, R, hi _ _ _ _ _ (fun items δ1 h1 => ?_) (fun _ _ z => z) hh⟩
  intro G1 H1 J g1 R1 gv D hD
  obtain ⟨nG, nF⟩ := R1.fresh hD
  have R1' := (R1.wiped is).heap (same_new (o := .lst []) hD)
  refine lc_it gv (fun i H' => ∃ G2 δ2 acc vs, Gr F G1 G2 ∧ Rel K B G2 F δ2 (wipe σ is) H' ∧ H' D = some (.lst vs) ∧ DqAll G2 vs acc ∧ G2 D = none ∧ Loose δ2 (wipe σ is) D ∧
      wLcL set is tA we (items.drop i) δ2 acc (fun acc' δ' => ∀ G' H' q o, Gr F G G' → Rel K B G' F (restoreD δ' δ1 is) σ H' → G' q = none → F q = none → Loose (restoreD δ' δ1 is) σ q → H' q = some o → OwnIs G' q o (.lst acc') → Q (.ref q) H'))
    ⟨G1, _, [], [], Gr.refl F G1, R1', upd_same, .nil, nG, (R1.wiped is).loose hD, by rw [List.drop_zero]; exact h1⟩ ?_ ?_ ?_
  · rintro i H' _ ⟨G2, δ2, acc, vs, g2, R2, _⟩
    exact g2.g.trans R2.g
  · rintro i x H' H2 hlt ⟨G2, δ2, acc, vs, g2, R2, hv, dv, nD, lD, h2⟩ y
    obtain ⟨d, G3, hd, g3, R3, d3, gw⟩ := item_step g2 R2 y
    rw [drop_at hd] at h2
    obtain ⟨δ3, e3, h3⟩ := h2
    have hv3 : H2 D = some (.lst vs) := gw.h _ _ hv
    have nD3 : G3 D = none := gw.n D ⟨_, hv, fun _ z => nomatch z⟩ nD
    have Rh := R3.hold nF lD hv3
    refine ht.run B G3 _ δ2 _ H2 x d δ3 _ Rh d3 e3 fun σ3 R4 hw => ?_
    have hw' : wipe σ3 is = wipe σ is := hw.trans (wipe_wipe is σ)
    have next : ∀ {G5 : Hp} {δ5 : DS} {H5 : Hp} {vs5 : List V} {acc5 : List PyData}, Gr F G3 G5 → Rel K B G5 F δ5 σ3 H5 → H5 D = some (.lst vs5) → DqAll G5 vs5 acc5 → G5 D = none → Loose δ5 σ3 D →
        wLcL set is tA we (items.drop (i + 1)) (wipeD δ5 is) acc5 (fun acc' δ' => ∀ G' H' q o, Gr F G G' → Rel K B G' F (restoreD δ' δ1 is) σ H' → G' q = none → F q = none → Loose (restoreD δ' δ1 is) σ q → H' q = some o → OwnIs G' q o (.lst acc') → Q (.ref q) H') →
        ∃ G2 δ2 acc vs, Gr F G1 G2 ∧ Rel K B G2 F δ2 (wipe σ is) H5 ∧ H5 D = some (.lst vs) ∧ DqAll G2 vs acc ∧ G2 D = none ∧ Loose δ2 (wipe σ is) D ∧
          wLcL set is tA we (items.drop (i + 1)) δ2 acc (fun acc' δ' => ∀ G' H' q o, Gr F G G' → Rel K B G' F (restoreD δ' δ1 is) σ H' → G' q = none → F q = none → Loose (restoreD δ' δ1 is) σ q → H' q = some o → OwnIs G' q o (.lst acc') → Q (.ref q) H') :=
      fun {G5 δ5 H5 vs5 acc5} g5 R5 hv5 dv5 nD5 lD5 z => by
        have R6 := R5.wiped is
        rw [hw'] at R6
        refine ⟨G5, wipeD δ5 is, acc5, vs5, g2.trans (g3.trans g5), R6, hv5, dv5, nD5, ?_, z⟩
        intro m k em es'
        rw [← hw'] at es'
        obtain ⟨e1, e2⟩ := wiped_own is em es'
        exact lD5 m k e1 e2
    refine ⟨hw', B, G3, _, δ3, R4, mt _ _ _ _ _ (fun b δ4 h4 => ?_) (fun _ _ z => z.elim) h3⟩
    intro G4 H4 g4 R5
    split at h4
    · rename_i hb
      rw [if_pos hb]
      refine ⟨B, G4, _, δ4, R5, me _ _ _ _ _ (fun y δ5 h5 => ?_) (fun _ _ z => z.elim) h4⟩
      intro G5 H5 u g5 R6 du
      obtain ⟨hz, h6⟩ := h5
      obtain ⟨g6, n6⟩ := (g4.trans g5).held nD3 nF (fun _ z => nomatch z)
      obtain ⟨R7, l7, hv7⟩ := R6.letGo R2.b nF
      have dv7 : DqAll G5 vs acc := dpAll_same g6.g (dpAll_same g3.g dv)
      refine ⟨vs, hv7, by rw [dpAll_len dv7]; exact hz, ?_⟩
      exact next g6 (R7.change n6 nF l7) upd_same (dpAll_app dv7 (.cons du .nil)) n6 l7 h6
    · rename_i hb
      rw [if_neg hb]
      obtain ⟨g6, n6⟩ := g4.held nD3 nF (fun _ z => nomatch z)
      obtain ⟨R7, l7, hv7⟩ := R5.letGo R2.b nF
      exact next g6 R7 hv7 (dpAll_same g6.g (dpAll_same g3.g dv)) n6 l7 h4
  · rintro H' ⟨G2, δ2, acc, vs, g2, R2, hv, dv, nD, lD, h2⟩
    rw [List.drop_length] at h2
    refine h2 G2 H' D _ (g1.trans g2) (R1.restore g2.g R2) nD nF ?_ hv ⟨vs, rfl, dv⟩
    intro m k em es'
    by_cases hm : m ∈ is
    · have hl : m < δ2.length := by
        have := (List.getElem?_eq_some_iff.mp em).1
        rwa [restore_len] at this
      rw [restore_in δ2 δ1 is m hm hl] at em
      exact keep_own (Option.some.inj em)
    · rw [restore_at δ2 δ1 is m hm] at em
      exact lD m k em ((wipe_at σ is m hm).trans es')
end
end RD

/-! The data layer, part f: comprehensions and calls of the text's own defs. -/
namespace RD
open PySem L2
section
variable {X : Cx} {W : WX} {a b c e : Expr} {es : List Expr} {pos : Pos} {wa wb wc we : WE} {wr : WA} {st : Stmt} {rest : List Stmt} {s1 s2 : WS} {tA : WT} {wi : WI} {tg it : Expr}
theorem dt_yes_pts : PTs X [] (tDT X.K W0 wYes) := ⟨fun pins s σ H Q I h => pts_nil.run pins s σ H Q I (by
  obtain ⟨B, G, F, δ, R, z⟩ := h
  exact z G H (Gr.refl F G) R)⟩
theorem dt_one_pts (h : DT X W0 c tA) : PTs X [c] (tDT X.K W0 tA) := pts_one h.pt
/-- the block of a comprehension, whatever its frame -/
abbrev Blk (X : Cx) (scope : Scope) (P : Cx → Prop) : Prop := ∀ (s : Shared) (H : Hp) (C : Addr) (cl : List (Str × Addr)) (fp : List Addr), P (X.blk s H scope (compEnvC scope cl C X.env) fp)
theorem blk_mono {elt : Expr} {scope : Scope} (h : Blk X scope fun Y => DE Y W0 elt we) : MonoE we := (h X.s_0 X.H_0 0 [] []).mono
theorem blk_monoT {scope : Scope} (h : Blk X scope fun Y => DT Y W0 c tA) : MonoE tA := (h X.s_0 X.H_0 0 [] []).mono
theorem dn_lc0 {elt : Expr} {scope : Scope} {own : List (Str × Nat)} {g : TG} {set : PyData → DS → Option DS} (hc : X.calm = true) (hN : X.N.Nodup) (hi : DI X W tg it wi) (ok : BlkOk X.N X.env.scope scope own) (hg : Blk X scope fun Y => PG Y tg g) (ht : TgtOk X.K g (own.map (·.2)) set)
    (he : Blk X scope fun Y => DE Y W0 elt we) (hs : ∀ x, foldedSetIterable it X.env x = pure x := by intro _; rfl) :
    DN X W (.ListComp elt [⟨tg, it, [], 0⟩] scope pos) (wLc wi set (own.map (·.2)) wYes we) :=
  ⟨pe_imp (pe_lc (tt := tDT X.K W0 wYes) hc hN hi.pi ok hg (fun _ _ _ _ _ => dt_yes_pts) (fun s H C cl fp => (he s H C cl fp).pe) hs) (tLc_of hi.mono ht wYes_mono (blk_mono he)), wLc_mono hi.mono wYes_mono (blk_mono he)⟩
theorem dn_lc1 {elt : Expr} {scope : Scope} {own : List (Str × Nat)} {g : TG} {set : PyData → DS → Option DS} (hc : X.calm = true) (hN : X.N.Nodup) (hi : DI X W tg it wi) (ok : BlkOk X.N X.env.scope scope own) (hg : Blk X scope fun Y => PG Y tg g) (ht : TgtOk X.K g (own.map (·.2)) set)
    (hq : Blk X scope fun Y => DT Y W0 c tA) (he : Blk X scope fun Y => DE Y W0 elt we) (hs : ∀ x, foldedSetIterable it X.env x = pure x := by intro _; rfl) :
    DN X W (.ListComp elt [⟨tg, it, [c], 0⟩] scope pos) (wLc wi set (own.map (·.2)) tA we) :=
  ⟨pe_imp (pe_lc (tt := tDT X.K W0 tA) hc hN hi.pi ok hg (fun s H C cl fp => dt_one_pts (hq s H C cl fp)) (fun s H C cl fp => (he s H C cl fp).pe) hs) (tLc_of hi.mono ht (blk_monoT hq) (blk_mono he)), wLc_mono hi.mono (blk_monoT hq) (blk_mono he)⟩
/-- y = [..] -/
theorem ds_lc_of {i : Nat} {w : WN} (p1 : PS X st (tAsg (tDN X.K W w) (gName i))) (m : MonoE w) : DSt X W st (wSetN i w) := by
  refine ⟨ps_imp p1 fun D σ H hh => ?_, wSetN_mono m⟩
  obtain ⟨B, G, F, δ, R, hh⟩ := hh
  refine ⟨B, G, F, δ, R, m _ _ _ _ _ (fun x δ1 h1 => ?_) xL_of hh⟩
  intro G1 H1 q o g1 R1 n1 n2 hl hq ho
  exact h1 G1 _ H1 g1 (R1.setO n1 n2 hq ho hl)
theorem ps_asg_imp {t t' : TE} {g : TG} (h : PS X st (tAsg t g)) (i : ∀ σ H Q, t' σ H Q → t σ H Q) : PS X st (tAsg t' g) := ps_imp h fun D σ H z => i σ H _ z
theorem ds_lc0 {i : Nat} {y : Str} {py spos : Pos} {elt : Expr} {scope : Scope} {own : List (Str × Nat)} {g : TG} {set : PyData → DS → Option DS} (hc : X.calm = true) (hN : X.N.Nodup) (hy : X.N[i]? = some y) (hyl : X.env.scope.names.lookup y = some .local)
    (hsw : swapsWith (.ListComp elt [⟨tg, it, [], 0⟩] scope pos) (some (.Name y py)) spos.line X.env = pure true) (hi : DI X W tg it wi) (ok : BlkOk X.N X.env.scope scope own) (hg : Blk X scope fun Y => PG Y tg g) (ht : TgtOk X.K g (own.map (·.2)) set)
    (he : Blk X scope fun Y => DE Y W0 elt we) (hs : ∀ x, foldedSetIterable it X.env x = pure x := by intro _; rfl) :
    DSt X W (.Assign [.Name y py] (.ListComp elt [⟨tg, it, [], 0⟩] scope pos) spos) (wSetN i (wLc wi set (own.map (·.2)) wYes we)) :=
  ds_lc_of (ps_asg_imp (ps_setLc (tt := tDT X.K W0 wYes) hc hN hy hyl hsw hi.pi ok hg (fun _ _ _ _ _ => dt_yes_pts) (fun s H C cl fp => (he s H C cl fp).pe) hs) (tLc_of hi.mono ht wYes_mono (blk_mono he))) (wLc_mono hi.mono wYes_mono (blk_mono he))
theorem ds_lc1 {i : Nat} {y : Str} {py spos : Pos} {elt : Expr} {scope : Scope} {own : List (Str × Nat)} {g : TG} {set : PyData → DS → Option DS} (hc : X.calm = true) (hN : X.N.Nodup) (hy : X.N[i]? = some y) (hyl : X.env.scope.names.lookup y = some .local)
    (hsw : swapsWith (.ListComp elt [⟨tg, it, [c], 0⟩] scope pos) (some (.Name y py)) spos.line X.env = pure true) (hi : DI X W tg it wi) (ok : BlkOk X.N X.env.scope scope own) (hg : Blk X scope fun Y => PG Y tg g) (ht : TgtOk X.K g (own.map (·.2)) set)
    (hq : Blk X scope fun Y => DT Y W0 c tA) (he : Blk X scope fun Y => DE Y W0 elt we) (hs : ∀ x, foldedSetIterable it X.env x = pure x := by intro _; rfl) :
    DSt X W (.Assign [.Name y py] (.ListComp elt [⟨tg, it, [c], 0⟩] scope pos) spos) (wSetN i (wLc wi set (own.map (·.2)) tA we)) :=
  ds_lc_of (ps_asg_imp (ps_setLc (tt := tDT X.K W0 tA) hc hN hy hyl hsw hi.pi ok hg (fun s H C cl fp => dt_one_pts (hq s H C cl fp)) (fun s H C cl fp => (he s H C cl fp).pe) hs) (tLc_of hi.mono ht (blk_monoT hq) (blk_mono he))) (wLc_mono hi.mono (blk_monoT hq) (blk_mono he))

/-! ### calls of the text's own defs -/
/-- what a def hands back -/
inductive Res where
  | ok (d : PyData)
  | exc (c : Addr)
abbrev PT := List PyData → (PyData → Prop) → (Value → Prop) → Prop
def MonoP (T : PT) : Prop := ∀ ds Q Q' E E', (∀ d, Q d → Q' d) → (∀ c, E c → E' c) → T ds Q E → T ds Q' E'
/-- a def whose answer is a function of its arguments -/
def detT (f : List PyData → Option Res) : PT := fun ds Q E => match f ds with
  | some (.ok d) => Q d
  | some (.exc c) => E (.ref c)
  | none => False
theorem detT_mono (f : List PyData → Option Res) : MonoP (detT f) := fun ds Q Q' E E' hq he h => by
  unfold detT at h ⊢
  split at h <;> first | exact hq _ h | exact he _ h | exact h
def spD (T : PT) : Sp := fun vs H Q E => ∃ G ds, Same G H ∧ DqAll G vs ds ∧ T ds (fun d => ∀ G' H' v, Gw G H G' H' → Dq G' v d → Q v H') (fun c => ∀ H', Same H H' → E c none H')
/-- a def that stands under a name and keeps its promise -/
structure Fn (P : Program) (w : World) (K : PySem.W.Frag) (mg : Str → Option Value) (base : Heap) (x : Str) (ps : List Str) (k : Nat) (T : PT) : Prop where
  ex : ∃ f fd, FnOk P w K mg base (L2N.CX P w) k f fd ps (spD T) ∧ mg x = some (.ref f) ∧ PySem.W.keepIn K (.ref f) = true ∧ Binds K fd ps []
  mono : MonoP T
def wCall (T : PT) (w : WA) : WE := fun δ Q E => w δ (fun ds δ' => T ds (fun d => Q d δ') (fun c => E c δ')) E
theorem wCall_mono {T : PT} (hT : MonoP T) (h : MonoE wr) : MonoE (wCall T wr) := fun δ Q Q' E E' hq he z => h _ _ _ _ _ (fun ds δ' y => hT _ _ _ _ _ (fun d q => hq _ _ q) (fun c q => he _ _ q) y) he z
theorem tCallS_of {K : PySem.W.Frag} {T : PT} (hT : MonoP T) (m : MonoE wr) (σ : St) (H : Hp) (Q : VK) (hh : tD K W (wCall T wr) σ H Q) : tCallS (spD T) (L2.WE W) (tDA K W wr) σ H Q := by
  obtain ⟨B, G, F, δ, R, h⟩ := hh
  refine ⟨B, G, F, δ, R, m _ _ _ _ _ (fun ds δ1 h1 => ?_) (fun _ _ z => z) h⟩
  intro G1 H1 vs g1 R1 d1
  refine ⟨G1, ds, R1.g, d1, hT _ _ _ _ _ (fun d q => ?_) (fun cc q => ?_) h1⟩
  · intro G2 H2 v w2 d2
    exact q G2 H2 v (g1.trans (w2.gr R1.f)) (R1.gw w2) d2
  · intro H2 s2
    exact q G1 H2 g1 (R1.heap s2)
theorem de_call {x : Str} {p : Pos} {ps : List Str} {k : Nat} {T : PT} (C : Fn X.prog X.w X.K X.mg X.base x ps k T) (tk : L2N.Takes X W) (hr : Room k X.A) (ha : DA X W (e :: es) wr) (hg : Gl X x := by rfl) (hdb : (x == ("__debug__" : Str)) = false := by decide)
    (hs : starEach (e :: es) X.env = (false, eval e X.env) :: starEach es X.env := by rfl) (hp : (backTo pos (starEach es X.env)).any (·.1) = false := by rfl) : DE X W (.Call (.Name x p) (e :: es) [] pos) (wCall T wr) := by
  obtain ⟨f, fd, F, hm, hk, hb⟩ := C.ex
  refine ⟨pe_imp (pe_callS F hr hg hm hk hb (fun σ => L2N.passAt tk σ) ha.pa hdb hs hp) (tCallS_of C.mono ha.mono), wCall_mono C.mono ha.mono⟩
/-- where nothing may be raised -/
theorem takes0 : L2N.Takes X W0 := fun _ _ x => by
  obtain ⟨_, _, _, _, _, _, _, _, _, _, _, _, _, _, _, _, z⟩ := x
  exact z.elim
/-- a def's body, by data -/
def startD (n : Nat) (ds : List PyData) : DS := ds.map SD.d ++ List.replicate (n - ds.length) SD.no
def fnEnds (Q : PyData → Prop) (E : Value → Prop) : WEnds := { nx := fun _ => Q .none, rt := fun x _ => Q x, bk := fun _ => False, ct := fun _ => False, ex := fun c _ => E c }
end
section
variable {P : Program} {w : World} {K : PySem.W.Frag} {mg : Str → Option Value} {base : Heap}
theorem start_rel {G H : Hp} {N : List Str} {vs : List V} {ds : List PyData} (s : Same G H) (h : DqAll G vs ds) (hl : vs.length ≤ N.length) : Rel K (fun _ => none) G H (startD N.length ds) (start N vs) H := by
  have ln := dpAll_len h
  refine ⟨(fun a o e => nomatch e), s, Same.refl H, ?_, fun i u e => ?_, fun i j k l p _ e => ?_⟩
  · unfold startD L2.start
    simp
    omega
  · unfold startD at e
    by_cases hi : i < ds.length
    · rw [List.getElem?_append_left (by simpa using hi), List.getElem?_map] at e
      cases q : ds[i]? with
      | none =>
        rw [q] at e
        cases e
      | some d =>
        rw [q] at e
        cases e
        obtain ⟨v, h1, h2⟩ := dpAll_get h q
        refine ⟨v, ?_, h2⟩
        unfold L2.start
        rw [List.getElem?_append_left (by simp; omega), List.getElem?_map, h1]
        rfl
    · rw [List.getElem?_append_right (by simp; omega), List.getElem?_replicate] at e
      split at e
      · cases e
        trivial
      · cases e
  · exfalso
    unfold startD at e
    by_cases hi : i < ds.length
    · rw [List.getElem?_append_left (by simpa using hi), List.getElem?_map] at e
      cases q : ds[i]? with
      | none =>
        rw [q] at e
        cases e
      | some d =>
        rw [q] at e
        cases e
    · rw [List.getElem?_append_right (by simp; omega), List.getElem?_replicate] at e
      split at e <;> cases e
theorem okD {x qual : Str} {st : Stmt} {f : Addr} {fd : FuncData} {N ps : List Str} {k : Nat} {T : PT} {b : WS} (F : Fun K x qual st f fd) (S : FnScope N ps (defScope st)) (hb : ∀ (cdv : Value) (A : Around) (outer : List Env) (s : Shared) (H : Hp) (E : XK), Room k (A.deeper (PyProof.Rows.envOfC qual (defScope st) s.heap.objs.size f cdv)) →
      DSs (cxOf (L2N.CX P w) P w K mg base N qual (defScope st) f cdv A outer s H E) (fun cls d _ H' => E cls d H') (defBody st) b) (hN : ps.length ≤ N.length)
    (hw : ∀ ds Q E, T ds Q E → ds.length = ps.length ∧ b (startD N.length ds) (fnEnds Q E)) : FnOk P w K mg base (L2N.CX P w) (k + 1) f fd ps (spD T) := by
  obtain ⟨oc, od, kV, doc, pm, an, cdv, ct, osl, rfl, lk, hcd⟩ := F.ex
  refine fn_of lk hcd S (fun vs H Q E h => ?_) fun A outer s H vs Q E hr hsp => ?_
  · obtain ⟨G, ds, s, d, t⟩ := h
    rw [dpAll_len d]
    exact (hw _ _ _ t).1
  · obtain ⟨G, ds, sm, d, t⟩ := hsp
    obtain ⟨hl, hbb⟩ := hw _ _ _ t
    refine ⟨_, (hb cdv A outer s H E hr).ps, fun _ => none, G, H, startD N.length ds, start_rel sm d (by rw [dpAll_len d, hl]; exact hN), (hb cdv A outer s H E hr).mono _ (fnEnds _ _) _ ⟨fun δ z => ?_, fun v δ z => ?_, fun _ z => False.elim z, fun _ z => False.elim z, fun cc δ z => ?_⟩ hbb⟩
    · intro G' σ' H' g R
      exact z G' H' .non ⟨R.f, g.g, R.g, g.n⟩ .non
    · intro G' σ' H' u g R du
      exact z G' H' u ⟨R.f, g.g, R.g, g.n⟩ du
    · intro G' σ' H' g R
      exact z H' R.f
end
end RD

/-! The data layer, part g: raise; the script, and defs that draw from it. -/
namespace RD
open PySem L2
section
variable {X : Cx} {W : WX} {a b c e : Expr} {es : List Expr} {pos p : Pos} {wa wb wc we : WE} {wr : WA} {st : Stmt}
def wRaise (c : Value) : WS := fun δ D => D.ex c δ
theorem ds_raise_of {C : Value} (h : PS X st (fun _ σ H => W C none σ H)) : DSt X W st (wRaise C) := by
  refine ⟨ps_imp h fun D σ H hh => ?_, fun _ _ _ l z => l.ex _ _ z⟩
  obtain ⟨B, G, F, δ, R, hh⟩ := hh
  exact hh G σ H (Gr.refl F G) R

/-! ### the script -/
def wLenScr (i : Nat) : WE := fun δ Q _ => ∃ ns, δ[i]? = some (.scr ns) ∧ Q (.int ns.length) δ
theorem de_lenScr {i : Nat} (ho : PE X a (tVar i)) (hm : X.mg "len" = none) (hg : Gl X "len" := by rfl) (hs : starEach [a] X.env = (false, eval a X.env) :: starEach [] X.env := by rfl) :
    DE X W (.Call (.Name "len" p) [a] [] pos) (wLenScr i) := by
  refine ⟨pe_imp (pe_callB call_len hg hm PySem.boot_len (pa_cons ho pa_nil hs) (by decide) (by decide) hs rfl) fun σ H Q hh => ?_, fun δ Q Q' E E' hq _ ⟨ns, h1, h2⟩ => ⟨ns, h1, hq _ _ h2⟩⟩
  obtain ⟨B, G, F, δ, R, ns, e, h⟩ := hh
  obtain ⟨a', e1, e2⟩ := R.slot i _ e
  refine ⟨_, e1, _, _, rfl, .inl ⟨_, (R.b.trans R.f).seq e2, rfl⟩, ?_⟩
  rw [List.length_map]
  exact h G H _ (Gr.refl F G) R (.int _)
def wIxScr (i : Nat) (w : WE) : WE := fun δ Q E => (∃ ns, δ[i]? = some (.scr ns)) ∧ w δ (fun y δ' => ∃ ns k z, δ'[i]? = some (.scr ns) ∧ y = .int k ∧ atI ns k = some z ∧ Q (.int z) δ') E
theorem atI_map {α β : Type} (f : α → β) {l : List α} {i : Int} {x : α} (h : atI l i = some x) : atI (l.map f) i = some (f x) := by
  unfold atI at h ⊢
  rw [List.length_map]
  cases q : ixN l.length i with
  | none =>
    rw [q] at h
    cases h
  | some j =>
    rw [q] at h
    show (l.map f)[j]? = _
    have h' : l[j]? = some x := h
    rw [List.getElem?_map, h']
    rfl
theorem de_ixScr {i : Nat} (ho : PE X a (tVar i)) (hb : DE X W b wb) (hs : PlainIx b := by intro _ _; rfl) : DE X W (.Subscript a b pos) (wIxScr i wb) := by
  refine ⟨pe_imp (pe_ix ix_list ho hb.pe hs) fun σ H Q hh => ?_, fun δ Q Q' E E' hq he ⟨h0, h⟩ => ⟨h0, hb.mono _ _ _ _ _ (fun y δ1 ⟨ns, k, z, h1, h2, h3, h4⟩ => ⟨ns, k, z, h1, h2, h3, hq _ _ h4⟩) he h⟩⟩
  obtain ⟨B, G, F, δ, R, ⟨ns, e⟩, h⟩ := hh
  obtain ⟨a', e1, e2⟩ := R.slot i _ e
  refine ⟨_, e1, B, G, F, δ, R, hb.mono _ _ _ _ _ (fun y δ1 h1 => ?_) (fun _ _ z => z) h⟩
  intro G1 H1 v1 g1 R1 d1
  obtain ⟨ns', k, z, e', rfl, hz, hq⟩ := h1
  obtain ⟨a'', e3, e4⟩ := R1.slot i _ e'
  rw [e1] at e3
  cases e3
  cases d1
  exact ⟨_, _, _, _, rfl, rfl, (R1.b.trans R1.f).seq e4, atI_map V.int hz, hq G1 H1 _ g1 R1 (.int _)⟩
/-- script == [] -/
def wEqNilScr (i : Nat) : WT := fun δ Q _ => ∃ ns, δ[i]? = some (.scr ns) ∧ Q (decide (ns = [])) δ
theorem dpAll_ints {K : PySem.W.Frag} {H : Hp} : ∀ ns : List Int, DpAll K H (ns.map V.int) (ns.map PyData.int)
  | [] => .nil
  | n :: ns => .cons (.int n) (dpAll_ints ns)
theorem shaped_ints : ∀ ns : List Int, SeqAt.shaped (.list (ns.map PyData.int)) = true := fun ns => by
  have h1 : ∀ ns : List Int, PyData.canLayAll0 (ns.map PyData.int) = true := fun ns => by
    induction ns with
    | nil => rfl
    | cons n ns ih => simpa [PyData.canLayAll0, PyData.canLay0] using ih
  have h2 := PySem.W.depth_ints ns
  unfold SeqAt.shaped
  rw [Bool.and_eq_true]
  refine ⟨?_, decide_eq_true ?_⟩
  · simpa [PyData.canLay0] using h1 ns
  · simp only [PyData.depth, h2]
    omega
theorem eqv_nil_ints (ns : List Int) : PyData.eqv (.list (ns.map PyData.int)) (.list []) = decide (ns = []) := by
  cases ns <;> simp [PyData.eqv, PyData.eqvAll]
theorem dt_eqNilScr {i : Nat} {k : Nat} {lpos : Pos} (hr : Room k X.A) (ho : PE X a (tVar i)) : DT X W (.Compare a [.Eq] [.List [] lpos] pos) (wEqNilScr i) := by
  refine ⟨pt_imp (pt_cmpR (op_eqD hr.units) ho (pe_lst pa_nil) (nomark _)) fun σ H Q hh => ?_, fun δ Q Q' E E' hq _ ⟨ns, h1, h2⟩ => ⟨ns, h1, hq _ _ h2⟩⟩
  obtain ⟨B, G, F, δ, R, ns, e, h⟩ := hh
  obtain ⟨a', e1, e2⟩ := R.slot i _ e
  refine ⟨_, e1, by show 0 ≤ sizeLine; exact Nat.zero_le _, fun q hq => ?_⟩
  have sm : Same H (upd H q (.lst [])) := same_new hq
  refine ⟨_, _, .lst (sm.seq ((R.b.trans R.f).seq e2)) (dpAll_ints ns), .lst (SqL.of upd_same) .nil, shaped_ints ns, shaped_ints [], _, rfl, ?_⟩
  rw [eqv_nil_ints]
  exact h G _ (Gr.refl F G) (R.heap sm)

/-! ### defs that read the script -/
abbrev PTS := List Int → List PyData → (PyData → Prop) → Prop
def spS (K : PySem.W.Frag) (T : PTS) : Sp := fun vs H Q _ => ∃ G a ns vs' ds, vs = .ref a :: vs' ∧ SqL K H a (ns.map V.int) ∧ Same G H ∧ DqAll G vs' ds ∧ T ns ds (fun d => ∀ G' H' v, Gw G H G' H' → Dq G' v d → Q v H')
structure FnS (P : Program) (w : World) (K : PySem.W.Frag) (mg : Str → Option Value) (base : Heap) (x : Str) (ps : List Str) (k : Nat) (T : PTS) : Prop where
  ex : ∃ f fd, FnOk P w K mg base (L2N.CX P w) k f fd ps (spS K T) ∧ mg x = some (.ref f) ∧ PySem.W.keepIn K (.ref f) = true ∧ Binds K fd ps []
  mono : ∀ ns ds Q Q', (∀ d, Q d → Q' d) → T ns ds Q → T ns ds Q'
def wCallS (i : Nat) (T : PTS) (w : WA) : WE := fun δ Q E => (∃ ns, δ[i]? = some (.scr ns)) ∧ w δ (fun ds δ' => ∃ ns, δ'[i]? = some (.scr ns) ∧ T ns ds (fun d => Q d δ')) E
theorem de_callScr {x : Str} {i : Nat} {ps : List Str} {k : Nat} {T : PTS} (C : FnS X.prog X.w X.K X.mg X.base x ps k T) (tk : L2N.Takes X W) (hr : Room k X.A) (ho : PE X a (tVar i)) (ha : DA X W es wr) (hg : Gl X x := by rfl) (hdb : (x == ("__debug__" : Str)) = false := by decide)
    (hs : starEach (a :: es) X.env = (false, eval a X.env) :: starEach es X.env := by rfl) (hp : (backTo pos (starEach es X.env)).any (·.1) = false := by rfl) : DE X W (.Call (.Name x p) (a :: es) [] pos) (wCallS i T wr) := by
  obtain ⟨f, fd, F, hm, hk, hb⟩ := C.ex
  refine ⟨pe_imp (pe_callS F hr hg hm hk hb (fun σ => L2N.passAt tk σ) (pa_cons ho ha.pa hs) hdb hs hp) fun σ H Q hh => ?_, fun δ Q Q' E E' hq he ⟨h0, h⟩ => ⟨h0, ha.mono _ _ _ _ _ (fun ds δ' ⟨ns, z1, z2⟩ => ⟨ns, z1, C.mono _ _ _ _ (fun d q => hq _ _ q) z2⟩) he h⟩⟩
  obtain ⟨B, G, F', δ, R, ⟨ns, e⟩, h⟩ := hh
  obtain ⟨a', e1, e2⟩ := R.slot i _ e
  refine ⟨_, e1, B, G, F', δ, R, ha.mono _ _ _ _ _ (fun ds δ1 h1 => ?_) (fun _ _ z => z) h⟩
  intro G1 H1 vs g1 R1 d1
  obtain ⟨ns', e', t⟩ := h1
  obtain ⟨a'', e3, e4⟩ := R1.slot i _ e'
  rw [e1] at e3
  cases e3
  refine ⟨G1, _, ns', vs, ds, rfl, (R1.b.trans R1.f).seq e4, R1.g, d1, C.mono _ _ _ _ (fun d q => ?_) t⟩
  intro G2 H2 v w2 d2
  exact q G2 H2 v (g1.trans (w2.gr R1.f)) (R1.gw w2) d2

/-! ### defs that draw: the script, the town, the rest -/
def hide (H : Hp) (t : Addr) : Hp := fun b => if b = t then none else H b
theorem hide_self {H : Hp} {t : Addr} : hide H t t = none := if_pos rfl
theorem hide_ne {H : Hp} {t b : Addr} (h : b ≠ t) : hide H t b = H b := if_neg h
theorem hide_same {H : Hp} {t : Addr} : Same (hide H t) H := fun b o e => by
  unfold hide at e
  split at e
  · cases e
  · exact e
theorem same_hide {M H : Hp} {t : Addr} (s : Same M H) (h : M t = none) : Same M (hide H t) := fun b o e => by
  rw [hide_ne (fun z => by rw [z, h] at e; cases e)]
  exact s b o e
abbrev PTT := List Int → List PyData → List PyData → (PyData → List PyData → Prop) → Prop
def spT (K : PySem.W.Frag) (T : PTT) : Sp := fun vs H Q _ => ∃ G a t ns tv zs vs' ds, vs = .ref a :: .ref t :: vs' ∧ SqL K (hide H t) a (ns.map V.int) ∧ Same G (hide H t) ∧ H t = some (.lst tv) ∧ DqAll G tv zs ∧ DqAll G vs' ds ∧
  T ns zs ds (fun d zs' => ∀ G' H' v tv', Gr (hide H t) G G' → Same (hide H t) H' → Same G' H' → G' t = none → H' t = some (.lst tv') → DqAll G' tv' zs' → Dq G' v d → Q v H')
structure FnT (P : Program) (w : World) (K : PySem.W.Frag) (mg : Str → Option Value) (base : Heap) (x : Str) (ps : List Str) (k : Nat) (T : PTT) : Prop where
  ex : ∃ f fd, FnOk P w K mg base (L2N.CX P w) k f fd ps (spT K T) ∧ mg x = some (.ref f) ∧ PySem.W.keepIn K (.ref f) = true ∧ Binds K fd ps []
  mono : ∀ ns zs ds Q Q', (∀ d z, Q d z → Q' d z) → T ns zs ds Q → T ns zs ds Q'
/-- a list to draw over: one's own, or the caller's -/
def twn? : OK → Option (List PyData)
  | .lst zs => some zs
  | .tw _ zs => some zs
  | _ => none
def twnSet : OK → List PyData → OK
  | .tw t _, zs' => .tw t zs'
  | _, zs' => .lst zs'
theorem own_twn {G : Hp} {p : Addr} {o : HO} {k : OK} {zs : List PyData} (h : OwnIs G p o k) (e : twn? k = some zs) : ∃ vs, o = .lst vs ∧ DqAll G vs zs := by
  cases k <;> cases e
  · exact h
  · exact h.2
theorem twn_own {G G' : Hp} {p : Addr} {o : HO} {k : OK} {zs zs' : List PyData} {vs' : List V} (h : OwnIs G p o k) (e : twn? k = some zs) (d : DqAll G' vs' zs') : OwnIs G' p (.lst vs') (twnSet k zs') := by
  cases k <;> cases e
  · exact ⟨vs', rfl, d⟩
  · exact ⟨h.1, vs', rfl, d⟩
def wCallT (i j : Nat) (T : PTT) (w : WA) : WE := fun δ Q E => (∃ ns, δ[i]? = some (.scr ns)) ∧ (∃ k zs, δ[j]? = some (.own k) ∧ twn? k = some zs) ∧ w δ (fun ds δ' => ∃ ns k zs, δ'[i]? = some (.scr ns) ∧ δ'[j]? = some (.own k) ∧ twn? k = some zs ∧ T ns zs ds (fun d zs' => Q d (δ'.set j (.own (twnSet k zs'))))) E
/-- behind a draw: the town has grown -/
theorem Rel.town {K : PySem.W.Frag} {B G F : Hp} {δ : DS} {σ : St} {H : Hp} (R : Rel K B G F δ σ H) {j : Nat} {t : Addr} {k : OK} {zs zs' : List PyData} {tv' : List V} {G' H' : Hp} (e : δ[j]? = some (.own k)) (ez : twn? k = some zs) (et : σ[j]? = some (some (.ref t)))
    (g : Gr (hide H t) G G') (h : Same (hide H t) H') (gh : Same G' H') (n : G' t = none) (ht : H' t = some (.lst tv')) (d : DqAll G' tv' zs') : Rel K B G' F (δ.set j (.own (twnSet k zs'))) σ H' ∧ Gr F G G' := by
  obtain ⟨t0, ob, e1, nG, nF, hH, ho⟩ := R.own e
  rw [et] at e1
  cases e1
  have sF : Same F (hide H t) := same_hide R.f nF
  have gF : Gr F G G' := g.frame fun a ha => same_mu sF ha
  have hi : j < δ.length := (List.getElem?_eq_some_iff.mp e).1
  refine ⟨⟨R.b, gh, sF.trans h, by simp [R.len], fun m s em => ?_, fun i l k1 k2 q hne e1 e2 e3 e4 => ?_⟩, gF⟩
  · by_cases hj : j = m
    · subst hj
      rw [List.getElem?_set_self hi] at em
      cases em
      exact ⟨t, _, et, n, nF, ht, twn_own ho ez d⟩
    · rw [List.getElem?_set_ne hj] at em
      have z := R.slot m s em
      cases s with
      | no => trivial
      | d x =>
        obtain ⟨v, h1, h2⟩ := z
        exact ⟨v, h1, dp_same g.g h2⟩
      | scr ns => exact z
      | raw v => exact z
      | own k =>
        obtain ⟨q, ob', h1, h2, h3, h4, h5⟩ := z
        have nq : q ≠ t := fun z => by
          subst z
          exact R.sep j m _ k q hj e em et h1
        have hq : hide H t q = some ob' := by rw [hide_ne nq]; exact h4
        exact ⟨q, ob', h1, g.n q (h5.mu hq) h2, h3, h _ _ hq, h5.grow g.g⟩
  · have back : ∀ (m : Nat) (k1 : OK), (δ.set j (SD.own (twnSet k zs')))[m]? = some (SD.own k1) → ∃ k2, δ[m]? = some (SD.own k2) := fun m k1 em => by
      by_cases hj : j = m
      · subst hj
        exact ⟨_, e⟩
      · rw [List.getElem?_set_ne hj] at em
        exact ⟨k1, em⟩
    obtain ⟨k3, e5⟩ := back i k1 e1
    obtain ⟨k4, e6⟩ := back l k2 e2
    exact R.sep i l k3 k4 q hne e5 e6 e3 e4
theorem de_callTown {x : Str} {i j : Nat} {ps : List Str} {k : Nat} {T : PTT} (C : FnT X.prog X.w X.K X.mg X.base x ps k T) (tk : L2N.Takes X W) (hr : Room k X.A) (ho : PE X a (tVar i)) (ho2 : PE X b (tVar j)) (ha : DA X W es wr) (hg : Gl X x := by rfl) (hdb : (x == ("__debug__" : Str)) = false := by decide)
    (hs : starEach (a :: b :: es) X.env = (false, eval a X.env) :: starEach (b :: es) X.env := by rfl) (hs2 : starEach (b :: es) X.env = (false, eval b X.env) :: starEach es X.env := by rfl) (hp : (backTo pos (starEach (b :: es) X.env)).any (·.1) = false := by rfl) :
    DE X W (.Call (.Name x p) (a :: b :: es) [] pos) (wCallT i j T wr) := by
  obtain ⟨f, fd, F, hm, hk, hb⟩ := C.ex
  refine ⟨pe_imp (pe_callS F hr hg hm hk hb (fun σ => L2N.passAt tk σ) (pa_cons ho (pa_cons ho2 ha.pa hs2) hs) hdb hs hp) fun σ H Q hh => ?_, fun δ Q Q' E E' hq he ⟨h0, h1, h⟩ => ⟨h0, h1, ha.mono _ _ _ _ _ (fun ds δ' ⟨ns, k', zs, z1, z2, z4, z3⟩ => ⟨ns, k', zs, z1, z2, z4, C.mono _ _ _ _ _ (fun d z q => hq _ _ q) z3⟩) he h⟩⟩
  obtain ⟨B, G, F', δ, R, ⟨ns, e⟩, ⟨k0, zs, et, _⟩, h⟩ := hh
  obtain ⟨a', e1, e2⟩ := R.slot i _ e
  obtain ⟨t, ob, e3, _, _, _, _⟩ := R.own et
  refine ⟨_, e1, _, e3, B, G, F', δ, R, ha.mono _ _ _ _ _ (fun ds δ1 h1 => ?_) (fun _ _ z => z) h⟩
  intro G1 H1 vs g1 R1 d1
  obtain ⟨ns', k1, zs', e', et', ez', tt⟩ := h1
  obtain ⟨a'', e4, e5⟩ := R1.slot i _ e'
  rw [e1] at e4
  cases e4
  obtain ⟨t', ob', e6, nG, nF, hH, ho⟩ := R1.own et'
  obtain ⟨tv, rfl, dv⟩ := own_twn ho ez'
  rw [e3] at e6
  cases e6
  have sB : Same B (hide H1 t) := (R1.b.trans (same_hide R1.f nF))
  refine ⟨G1, _, t, ns', tv, zs', vs, ds, rfl, sB.seq e5, same_hide R1.g nG, hH, dv, d1, C.mono _ _ _ _ _ (fun d z q => ?_) tt⟩
  intro G2 H2 v tv' g2 h2 gh n2 ht2 dt2 d2
  obtain ⟨R2, gr⟩ := R1.town et' ez' e3 g2 h2 gh n2 ht2 dt2
  exact q G2 H2 v (g1.trans gr) R2 d2
end
section
variable {P : Program} {w : World} {K : PySem.W.Frag} {mg : Str → Option Value} {base : Heap}
/-- the slots at a start: some first ones, then data -/
theorem startS_rel {G H : Hp} {N : List Str} {a : Addr} {ns : List Int} {vs : List V} {ds : List PyData} (sq : SqL K H a (ns.map V.int)) (s : Same G H) (h : DqAll G vs ds) (hl : vs.length + 1 ≤ N.length) :
    Rel K H G H (.scr ns :: startD (N.length - 1) ds) (L2.start N (.ref a :: vs)) H := by
  cases N with
  | nil => simp at hl
  | cons x N =>
    have R := start_rel (K := K) (N := N) s h (by simpa using hl)
    have es : L2.start (x :: N) (.ref a :: vs) = some (.ref a) :: L2.start N vs := by
      unfold L2.start
      simp
    rw [es]
    refine ⟨Same.refl H, R.g, R.f, by simp [R.len], fun i u e => ?_, fun i j k l p hne e1 e2 e3 e4 => ?_⟩
    · cases i with
      | zero =>
        cases e
        exact ⟨a, rfl, sq⟩
      | succ i =>
        have z := R.slot i u e
        cases u with
        | no => trivial
        | d x => exact z
        | scr ns =>
          exfalso
          have e' : (startD N.length ds)[i]? = some (.scr ns) := e
          unfold startD at e'
          by_cases hi : i < ds.length
          · rw [List.getElem?_append_left (by simpa using hi), List.getElem?_map] at e'
            cases q : ds[i]? with
            | none =>
              rw [q] at e'
              cases e'
            | some d =>
              rw [q] at e'
              cases e'
          · rw [List.getElem?_append_right (by simp; omega), List.getElem?_replicate] at e'
            split at e' <;> cases e'
        | raw v => exact z
        | own k => exact z
    · cases i with
      | zero => cases e1
      | succ i =>
        cases j with
        | zero => cases e2
        | succ j => exact R.sep i j k l p (fun z => hne (by rw [z])) e1 e2 e3 e4
def ends1 (Q : PyData → Prop) : WEnds := { nx := fun _ => Q .none, rt := fun x _ => Q x, bk := fun _ => False, ct := fun _ => False, ex := fun _ _ => False }
theorem okS {x qual : Str} {st : Stmt} {f : Addr} {fd : FuncData} {N ps : List Str} {k : Nat} {T : PTS} {b : WS} (F : Fun K x qual st f fd) (S : FnScope N ps (defScope st)) (hb : ∀ (cdv : Value) (A : Around) (outer : List Env) (s : Shared) (H : Hp) (E : XK), Room k (A.deeper (PyProof.Rows.envOfC qual (defScope st) s.heap.objs.size f cdv)) →
      DSs (cxOf (L2N.CX P w) P w K mg base N qual (defScope st) f cdv A outer s H E) (fun cls d _ H' => E cls d H') (defBody st) b) (hN : ps.length ≤ N.length)
    (hw : ∀ ns ds Q, T ns ds Q → ds.length + 1 = ps.length ∧ b (.scr ns :: startD (N.length - 1) ds) (ends1 Q)) : FnOk P w K mg base (L2N.CX P w) (k + 1) f fd ps (spS K T) := by
  obtain ⟨oc, od, kV, doc, pm, an, cdv, ct, osl, rfl, lk, hcd⟩ := F.ex
  refine fn_of lk hcd S (fun vs H Q E h => ?_) fun A outer s H vs Q E hr hsp => ?_
  · obtain ⟨G, a, ns, vs', ds, rfl, sq, sm, d, t⟩ := h
    have := (hw _ _ _ t).1
    have := dpAll_len d
    simp
    omega
  · obtain ⟨G, a, ns, vs', ds, rfl, sq, sm, d, t⟩ := hsp
    obtain ⟨hl, hbb⟩ := hw _ _ _ t
    refine ⟨_, (hb cdv A outer s H E hr).ps, H, G, H, _, startS_rel sq sm d (by rw [dpAll_len d]; omega), (hb cdv A outer s H E hr).mono _ (ends1 _) _ ⟨fun δ z => ?_, fun v δ z => ?_, fun _ z => False.elim z, fun _ z => False.elim z, fun cc δ z => False.elim z⟩ hbb⟩
    · intro G' σ' H' g R
      exact z G' H' .non ⟨R.f, g.g, R.g, g.n⟩ .non
    · intro G' σ' H' u g R du
      exact z G' H' u ⟨R.f, g.g, R.g, g.n⟩ du
/-- the script, an owned list, then data -/
theorem startT_rel {G H : Hp} {N : List Str} {a t : Addr} {ns : List Int} {tv vs : List V} {zs ds : List PyData} (sq : SqL K (hide H t) a (ns.map V.int)) (s : Same G (hide H t)) (ht : H t = some (.lst tv)) (dt : DqAll G tv zs) (h : DqAll G vs ds) (hl : vs.length + 2 ≤ N.length) :
    Rel K (hide H t) G (hide H t) (.scr ns :: .own (.tw t zs) :: startD (N.length - 2) ds) (L2.start N (.ref a :: .ref t :: vs)) H := by
  match N, hl with
  | x :: y :: N, hl =>
    have R := start_rel (K := K) (N := N) s h (by simpa using hl)
    have es : L2.start (x :: y :: N) (.ref a :: .ref t :: vs) = some (.ref a) :: some (.ref t) :: L2.start N vs := by
      unfold L2.start
      simp
    rw [es]
    have nG : G t = none := s.free hide_self
    refine ⟨Same.refl _, s.trans hide_same, hide_same, by simp [R.len], fun i u e => ?_, fun i j k l p hne e1 e2 e3 e4 => ?_⟩
    · match i, e with
      | 0, e =>
        cases e
        exact ⟨a, rfl, sq⟩
      | 1, e =>
        cases e
        exact ⟨t, _, rfl, nG, hide_self, ht, rfl, tv, rfl, dt⟩
      | i + 2, e =>
        have z := R.slot i u e
        have nn : ∀ u', (startD N.length ds)[i]? = some u' → u' = .no ∨ ∃ d, u' = .d d := fun u' e' => by
          unfold startD at e'
          by_cases hi : i < ds.length
          · rw [List.getElem?_append_left (by simpa using hi), List.getElem?_map] at e'
            cases q : ds[i]? with
            | none =>
              rw [q] at e'
              cases e'
            | some d =>
              rw [q] at e'
              cases e'
              exact .inr ⟨d, rfl⟩
          · rw [List.getElem?_append_right (by simp; omega), List.getElem?_replicate] at e'
            split at e'
            · cases e'
              exact .inl rfl
            · cases e'
        rcases nn u e with rfl | ⟨d, rfl⟩
        · trivial
        · exact z
    · have nn : ∀ (i : Nat) (k : OK), (SD.scr ns :: SD.own (.tw t zs) :: startD N.length ds)[i]? = some (.own k) → i = 1 := fun i k e' => by
        match i, e' with
        | 0, e' => cases e'
        | 1, e' => rfl
        | i + 2, e' =>
          exfalso
          have e' : (startD N.length ds)[i]? = some (.own k) := e'
          unfold startD at e'
          by_cases hi : i < ds.length
          · rw [List.getElem?_append_left (by simpa using hi), List.getElem?_map] at e'
            cases q : ds[i]? with
            | none =>
              rw [q] at e'
              cases e'
            | some d =>
              rw [q] at e'
              cases e'
          · rw [List.getElem?_append_right (by simp; omega), List.getElem?_replicate] at e'
            split at e' <;> cases e'
      exact hne ((nn i k e1).trans (nn j l e2).symm)
/-- what is wanted behind a def that draws: its town is the second slot -/
def ends2 (t : Addr) (Q : PyData → List PyData → Prop) : WEnds := { nx := fun _ => False, rt := fun x δ => ∃ zs, δ[1]? = some (.own (.tw t zs)) ∧ Q x zs, bk := fun _ => False, ct := fun _ => False, ex := fun _ _ => False }
theorem okT {x qual : Str} {st : Stmt} {f : Addr} {fd : FuncData} {N ps : List Str} {k : Nat} {T : PTT} {b : WS} (F : Fun K x qual st f fd) (S : FnScope N ps (defScope st)) (hb : ∀ (cdv : Value) (A : Around) (outer : List Env) (s : Shared) (H : Hp) (E : XK), Room k (A.deeper (PyProof.Rows.envOfC qual (defScope st) s.heap.objs.size f cdv)) →
      DSs (cxOf (L2N.CX P w) P w K mg base N qual (defScope st) f cdv A outer s H E) (fun cls d _ H' => E cls d H') (defBody st) b) (hN : ps.length ≤ N.length)
    (hw : ∀ t ns zs ds Q, T ns zs ds Q → ds.length + 2 = ps.length ∧ b (.scr ns :: .own (.tw t zs) :: startD (N.length - 2) ds) (ends2 t Q)) : FnOk P w K mg base (L2N.CX P w) (k + 1) f fd ps (spT K T) := by
  obtain ⟨oc, od, kV, doc, pm, an, cdv, ct, osl, rfl, lk, hcd⟩ := F.ex
  refine fn_of lk hcd S (fun vs H Q E h => ?_) fun A outer s H vs Q E hr hsp => ?_
  · obtain ⟨G, a, t, ns, tv, zs, vs', ds, rfl, sq, sm, ht, dt, d, tt⟩ := h
    have := (hw t _ _ _ _ tt).1
    have := dpAll_len d
    simp
    omega
  · obtain ⟨G, a, t, ns, tv, zs, vs', ds, rfl, sq, sm, ht, dt, d, tt⟩ := hsp
    obtain ⟨hl, hbb⟩ := hw t _ _ _ _ tt
    refine ⟨_, (hb cdv A outer s H E hr).ps, hide H t, G, hide H t, _, startT_rel sq sm ht dt d (by rw [dpAll_len d]; omega), (hb cdv A outer s H E hr).mono _ (ends2 t _) _ ⟨fun δ z => False.elim z, fun v δ z => ?_, fun _ z => False.elim z, fun _ z => False.elim z, fun cc δ z => False.elim z⟩ hbb⟩
    intro G' σ' H' u g R du
    obtain ⟨zs', e1, q⟩ := z
    obtain ⟨p, ob, e2, n1, n2, h4, rfl, vs2, rfl, dv⟩ := R.own e1
    exact q G' H' u vs2 g R.f R.g n1 h4 dv du
/-- x.append(e), x the caller's list -/
def wAppT (i : Nat) (w : WE) : WS := fun δ D => (∃ k xs, δ[i]? = some (.own k) ∧ twn? k = some xs) ∧ w δ (fun x δ' => ∃ k xs, δ'[i]? = some (.own k) ∧ twn? k = some xs ∧ xs.length < sizeLine ∧ D.nx (δ'.set i (.own (twnSet k (xs ++ [x]))))) D.ex
theorem ds_appendT {X : Cx} {W : WX} {e : Expr} {we : WE} {st : Stmt} {i : Nat} (h : DE X W e we) (p1 : PS X st (tDrop (tBM X.K "list" rAppend (tVar i) (tCons (tD X.K W we) tNil)))) : DSt X W st (wAppT i we) := by
  refine ⟨ps_imp p1 fun D σ H hh => ?_, fun δ D D' l ⟨h0, hh⟩ => ⟨h0, h.mono _ _ _ _ _ (fun x δ' ⟨k, xs, z1, z2, z3, z4⟩ => ⟨k, xs, z1, z2, z3, l.nx _ z4⟩) l.ex hh⟩⟩
  obtain ⟨B, G, F, δ, R, ⟨k0, xs0, e0, ez⟩, hh⟩ := hh
  obtain ⟨p, ob, ep, _, _, hp, ho⟩ := R.own e0
  obtain ⟨vs, rfl, _⟩ := own_twn ho ez
  refine ⟨_, ep, .inl ⟨rfl, _, SqL.of hp⟩, B, G, F, δ, R, h.mono _ _ _ _ _ (fun x δ1 h1 => ?_) xL_of hh⟩
  intro G1 H1 v1 g1 R1 d1
  obtain ⟨k, xs, e1, ez1, hz, h2⟩ := h1
  obtain ⟨p', ob', ep', _, _, hp', ho'⟩ := R1.own e1
  obtain ⟨vs', rfl, dv⟩ := own_twn ho' ez1
  rw [ep] at ep'
  cases ep'
  refine ⟨p, vs', v1, rfl, rfl, hp', by rw [dpAll_len dv]; exact hz, ?_⟩
  exact h2 G1 σ _ g1 (R1.mut e1 ep (twn_own ho' ez1 (dpAll_app dv (.cons d1 .nil))))
end
/-- the end: a law that hands back True for every script -/
theorem walkS {l : PySem.W.OpenLaw} {k : Nat} {q : Program} {loose : List Str} {XP : (Str → Option Value) → Heap → Prop} {YP : World → Heap → Prop} {d : DefRec} {K : Params → PySem.W.Frag} {T : PTS} (hn : l.most = some 63) (hr : Room k callerA) (hdf : d.params.defaults = [])
    (hY : ∀ (w : World) (h : Heap), YP w h → (K w.params).In h)
    (F : ∀ (w : World) (mg : Str → Option Value) (fa : Addr) (h : Heap), (K w.params).In h → h.Ns mainGlobals mg → mg d.name = some (.ref fa) →
      ∃ fd : FuncData, (∀ (s : Shared) (u : Value), BindsTo s fd ⟨[u], []⟩ [("script", u)]) ∧ ∀ base : Heap, (K w.params).In base → base.Ns mainGlobals mg → FnOk l.prog w (K w.params) mg base (L2N.CX l.prog w) k fa fd ["script"] (spS (K w.params) T))
    (hT : ∀ ns : List Int, ns.length ≤ 63 → T ns [] (fun d => d = .bool true)) (mT : ∀ ns ds Q Q', (∀ d, Q d → Q' d) → T ns ds Q → T ns ds Q') :
    PySem.W.WalkO q loose XP YP l.row.toRowW d [] (fun f vs => PySem.call f vs) :=
  L2.walk_of (n := 63) (k := k) (x := "script") (CX := fun w => L2N.CX l.prog w) (sp := fun w => spS (K w.params) T) hn (by decide) hdf hr hY F
    (fun w H a ns hl _ hS => ⟨H, a, ns, [], [], rfl, hS, Same.refl H, .nil, mT _ _ _ _ (fun d hd => by
      subst hd
      intro G' H' v _ dv
      cases dv
      rfl) (hT ns hl)⟩)
    fun w H s e s' z => by
      obtain ⟨_, _, _, _, _, _, _, _, _, _, _, _, z⟩ := z
      exact z.elim
end RD

/-! The data layer, part h: min, max, sorted, join, list. -/
namespace PySem.W
open PySem PySem.SeqAt PyProof.Rows
section
variable {prog : Program} {w : World} {A : Around} {E : Value → Shared → Prop} {s : Shared}
/-- which item a least or greatest one is -/
theorem best_at {f : PyData → PyData → Bool} {x : PyData} {xs : List PyData} {vs : Array Value} {v : Value} {n : Nat} (hn : n = xs.length + 1) (h : vs[argBest (fun i j => f ((x :: xs).getD i PyData.none) ((x :: xs).getD j PyData.none)) (n - 1)]? = some v) :
    ∃ i : Nat, vs[i]? = some v ∧ (x :: xs)[i]? = some (xs.foldl (fun a y => if f y a then y else a) x) := by
  obtain ⟨h1, h2⟩ := argBest_fold f PyData.none x xs xs.length (Nat.le_refl _)
  rw [List.take_length] at h2
  have e : n - 1 = xs.length := by omega
  rw [e] at h
  refine ⟨_, h, ?_⟩
  rw [List.getD_eq_getElem?_getD] at h2
  have hlt : argBest (fun i j => f ((x :: xs).getD i PyData.none) ((x :: xs).getD j PyData.none)) xs.length < (x :: xs).length := by
    simp only [List.length_cons]
    omega
  rw [List.getElem?_eq_getElem hlt] at h2 ⊢
  rw [← h2]
  rfl
theorem least_of_list {l : Addr} {vs : Array Value} {x : PyData} {xs : List PyData} {as : List Addr} {Q : Value → Shared → Prop} (hh : A.handled = none) (hl : s.heap.IsList l vs) (hr : ReadsAll s.heap vs.toList (x :: xs) as) (ha : AlikeAll (x :: xs)) (hu : A.units + 1 + PyData.depthAll (x :: xs) < cLine)
    (h : ∀ (i : Nat) v h' tk, vs[i]? = some v → (x :: xs)[i]? = some (minD x xs) → (∀ b o, s.heap.get? b = some o → h'.get? b = some o) → Q v { s with heap := h', toks := tk }) :
    wpAny (model prog w) A (call (.builtin "min") [.ref l]) Q E s := by
  have hn := readsAll_len hr
  simp only [List.length_cons] at hn
  refine call_min_walkH (iter_listW (A := A.in1) hh hl fun s2 e W st hfp hw hk => ⟨_, _, _, _, _, _, _, s.heap, _, rfl, W, st, hfp, by omega, hw, hk, cmpIn_lt (A := A.in1) hr ha (show A.units + 1 + _ < _ from hu), fun v s' hP m => ?_⟩)
  obtain ⟨h', tk, rfl, hk'⟩ := moved_old e rfl m
  obtain ⟨i, h1, h2⟩ := best_at (f := dataLt) hn hP
  exact h i v h' tk h1 h2 hk'
theorem greatest_of_list {l : Addr} {vs : Array Value} {x : PyData} {xs : List PyData} {as : List Addr} {Q : Value → Shared → Prop} (hh : A.handled = none) (hl : s.heap.IsList l vs) (hr : ReadsAll s.heap vs.toList (x :: xs) as) (ha : AlikeAll (x :: xs)) (hu : A.units + 1 + PyData.depthAll (x :: xs) < cLine)
    (h : ∀ (i : Nat) v h' tk, vs[i]? = some v → (x :: xs)[i]? = some (maxD x xs) → (∀ b o, s.heap.get? b = some o → h'.get? b = some o) → Q v { s with heap := h', toks := tk }) :
    wpAny (model prog w) A (call (.builtin "max") [.ref l]) Q E s := by
  have hn := readsAll_len hr
  simp only [List.length_cons] at hn
  refine call_max_walkH (iter_listW (A := A.in1) hh hl fun s2 e W st hfp hw hk => ⟨_, _, _, _, _, _, _, s.heap, _, rfl, W, st, hfp, by omega, hw, hk, cmpIn_gt (A := A.in1) hr ha (show A.units + 1 + _ < _ from hu), fun v s' hP m => ?_⟩)
  obtain ⟨h', tk, rfl, hk'⟩ := moved_old e rfl m
  obtain ⟨i, h1, h2⟩ := best_at (f := fun a b => dataLt b a) hn hP
  exact h i v h' tk h1 h2 hk'
/-- max(a, b) of two data -/
theorem greatest_of_two {a b : Value} {x y : PyData} {as bs : List Addr} {Q : Value → Shared → Prop} (hh : A.handled = none) (r1 : Reads s.heap a x as) (r2 : Reads s.heap b y bs) (ha : AlikeAll [x, y]) (hu : A.units + 1 + PyData.depthAll [x, y] < cLine)
    (h : ∀ (i : Nat) v h' tk, [a, b][i]? = some v → [x, y][i]? = some (maxD x [y]) → (∀ b o, s.heap.get? b = some o → h'.get? b = some o) → Q v { s with heap := h', toks := tk }) :
    wpAny (model prog w) A (call (.builtin "max") [a, b]) Q E s := by
  have hname : (toString "max" ++ toString ".loop" : String) = "max.loop" := by decide
  refine call_function_tree F.kind_max F.plain_max F.entry_max (F.args_max2 _ _) ?_
  show wpAny _ A.in1 (Builtin.Builtins.bindParams "max" ["key", "default"] 0 ⟨[], []⟩ >>= _) _ _ s
  refine wpAny_bind (wpAny_of_eq (show Builtin.Builtins.bindParams "max" ["key", "default"] 0 ⟨[], []⟩ = pure [none, none] from rfl) ?_)
  show wpAny _ A.in1 (newTuple [a, b] >>= _) _ _ s
  refine wpAny_bind (wpAny_newObj_type ?_)
  have old : ∀ c o, s.heap.get? c = some o → (s.heap.push { cls := .type "tuple", data := .seq #[a, b] }).get? c = some o := fun c o q => Heap.get?_push_of_some _ q
  have hT : (s.heap.push { cls := .type "tuple", data := .seq #[a, b] }).IsTuple s.heap.objs.size #[a, b] := ⟨_, Heap.get?_push_size _ rfl, rfl, 0, rfl⟩
  have hr : ReadsAll (s.heap.push { cls := .type "tuple", data := .seq #[a, b] }) [a, b] [x, y] _ := ReadsAll.cons (reads_keeps old r1) (ReadsAll.cons (reads_keeps old r2) ReadsAll.nil)
  refine wpAny_bind (iter_tupleW (A := A.in1) hh hT fun s2 e W st hfp hw hk => ?_)
  refine wpAny_bind (wpAny_newObj_type ?_)
  have hSf : s2.heap.objs.size ∉ [(s.heap.push { cls := .type "tuple", data := .seq #[a, b] }).objs.size, s.heap.objs.size] := fun hm => Nat.lt_irrefl _ (hfp _ hm)
  rw [hname]
  have hc := cmpIn_gt (prog := prog) (w := w) (A := A.in1) (s := { s with heap := s.heap.push { cls := .type "tuple", data := .seq #[a, b] } }) (vs := #[a, b]) hr ha (show A.units + 1 + _ < _ from hu)
  refine wpAny_pure ⟨plainId_quiet F.plain_max_loop _, codeAny_max_loop_firstH W _ hw _ hc s2.heap.objs.size hSf (fresh_in hk) _ (by show 0 < 2; decide) (fun c o q => Heap.get?_push_of_some _ (hk c o q)) (W.frame 0 s2 _ s2.toks st (Nat.le_refl _) fun c _ o q => Heap.get?_push_of_some _ q) (Heap.get?_push_size _ rfl) fun v s' hP hm => ?_⟩
  have m := Moved.drop_new (tk := s2.toks) hm (Nat.le_refl _)
  obtain ⟨h', tk, rfl, hk'⟩ := moved_old e rfl m
  obtain ⟨i, h1, h2⟩ := best_at (f := fun a b => dataLt b a) (x := x) (xs := [y]) (n := 2) rfl hP
  refine h i v h' tk ?_ h2 fun c o q => hk' c o (old c o q)
  rw [← List.getElem?_toArray]
  exact h1
end
end PySem.W
namespace RD
open PySem L2
section
variable {X : Cx} {W : WX} {a b c e : Expr} {es : List Expr} {pos p : Pos} {wa wb wc we : WE} {wr : WA} {st : Stmt}
def allAlike (xs : List PyData) : Bool := (xs.all fun x => xs.all fun y => PySem.W.alike x y) && xs.all (fun x => match x with | .none => false | _ => true) && decide (PyData.depthAll xs ≤ 64)
theorem allAlike_of {xs : List PyData} (h : allAlike xs = true) : PySem.W.AlikeAll xs ∧ PyData.depthAll xs ≤ 64 := by
  unfold allAlike at h
  simp only [Bool.and_eq_true, List.all_eq_true, decide_eq_true_eq] at h
  refine ⟨⟨fun x hx y hy => h.1.1 x hx y hy, fun x hx z => ?_⟩, h.2⟩
  have := h.1.2 x hx
  rw [z] at this
  cases this
def minF : List PyData → Option PyData
  | [.int i, .int j] => some (.int (if j < i then j else i))
  | [.list (x :: xs)] => if allAlike (x :: xs) = true then some (PySem.W.minD x xs) else none
  | _ => none
def maxF : List PyData → Option PyData
  | [.int i, .int j] => some (.int (if j > i then j else i))
  | [.list (x :: xs)] => if allAlike (x :: xs) = true then some (PySem.W.maxD x xs) else none
  | [.tuple xs, .tuple ys] => if allAlike [.tuple xs, .tuple ys] = true then some (PySem.W.maxD (.tuple xs) [.tuple ys]) else none
  | _ => none
/-- a call that reads data and gives out data -/
def rDat (f : List PyData → Option PyData) : List V → Hp → VK → Prop := fun vs H Q => ∃ G ds d, Same G H ∧ DqAll G vs ds ∧ f ds = some d ∧ Gives G H d Q
theorem callD_dat (f : List PyData → Option PyData) : CallD (rDat f) f := fun G H vs ds d Q s h hf hg => ⟨G, ds, d, s, h, hf, hg⟩
theorem vals_at {vs : List V} {us : List Value} {i : Nat} {u : Value} (r : Vals vs us) (h : us[i]? = some u) : ∃ v, vs[i]? = some v ∧ RelV v u := by
  have hl := r.length
  have hi : i < us.length := (List.getElem?_eq_some_iff.mp h).1
  have e : vs[i]? = some vs[i] := List.getElem?_eq_getElem (by omega)
  obtain ⟨u', h1, h2⟩ := r.get e
  rw [h] at h1
  cases h1
  exact ⟨_, e, h2⟩
theorem pick_item {pins : List (Addr × Obj)} {σ : St} {G H : Hp} {s : Shared} {h' : Heap} {tk i : Nat} {vs : List V} {us : List Value} {ds : List PyData} {u : Value} {d : PyData} {Q : VK} (I : Inv X pins σ H s) (sm : Same G H) (dv : DqAll G vs ds) (r : Vals vs us) (h1 : us[i]? = some u) (h2 : ds[i]? = some d)
    (k : ∀ b o, s.heap.get? b = some o → h'.get? b = some o) (hg : Gives G H d Q) : EP X pins σ Q u { s with heap := h', toks := tk } := by
  obtain ⟨v, h3, rv⟩ := vals_at r h1
  obtain ⟨d', h4, dd⟩ := dpAll_getV dv h3
  rw [h2] at h4
  cases h4
  exact ⟨v, H, I.kept k, rv, gives_val sm hg dd⟩
theorem cr_min (hc : X.calm = true) {k : Nat} (hr : Room k X.A) : CallR X (.builtin "min") (rDat minF) := by
  intro pins s σ H xs us Q I r h
  obtain ⟨G, ds, d, sm, hd, hf, hg⟩ := h
  match ds, hf with
  | [.int i, .int j], hf =>
    obtain ⟨v, v', rfl, d1, d2⟩ := dqAll2 hd
    cases d1
    cases d2
    cases hf
    exact call_min2 hc pins s σ H _ us Q I r ⟨i, j, rfl, gives_val sm hg (.int _)⟩
  | [.list (x :: xs)], hf =>
    obtain ⟨v, rfl, d1⟩ := dqAll1 hd
    simp only [minF] at hf
    split at hf
    · rename_i ha
      cases hf
      obtain ⟨ha, hdp⟩ := allAlike_of ha
      cases d1 with
      | lst h1 h2 =>
        obtain ⟨u, rfl, ru⟩ := vals1 r
        cases ru
        obtain ⟨its, rv, pl, hz⟩ := I.list (SqL.of (sm _ _ h1))
        obtain ⟨as, rd⟩ := Dp.readsAll I _ _ _ (dpAll_of (dpAll_same sm h2)) rv
        refine PySem.W.least_of_list (I.ok.hd hc) pl.isList rd ha (by have := hr.un; omega) fun i v h' tk e1 e2 k => ?_
        exact pick_item I sm h2 rv (by simpa using e1) e2 k hg
    · cases hf
theorem cr_max (hc : X.calm = true) {k : Nat} (hr : Room k X.A) : CallR X (.builtin "max") (rDat maxF) := by
  intro pins s σ H xs us Q I r h
  obtain ⟨G, ds, d, sm, hd, hf, hg⟩ := h
  match ds, hf with
  | [.int i, .int j], hf =>
    obtain ⟨v, v', rfl, d1, d2⟩ := dqAll2 hd
    cases d1
    cases d2
    cases hf
    exact call_max2 hc pins s σ H _ us Q I r ⟨i, j, rfl, gives_val sm hg (.int _)⟩
  | [.tuple xs, .tuple ys], hf =>
    simp only [maxF] at hf
    split at hf
    · rename_i ha
      cases hf
      obtain ⟨ha, hdp⟩ := allAlike_of ha
      obtain ⟨v, v', rfl, d1, d2⟩ := dqAll2 hd
      obtain ⟨u, u', rfl, r1, r2⟩ := vals2 r
      obtain ⟨as, rd1⟩ := Dp.reads I _ _ _ (dp_of (dp_same sm d1)) r1
      obtain ⟨bs, rd2⟩ := Dp.reads I _ _ _ (dp_of (dp_same sm d2)) r2
      refine PySem.W.greatest_of_two (I.ok.hd hc) rd1 rd2 ha (by have := hr.un; omega) fun i z h' tk e1 e2 k => ?_
      exact pick_item I sm hd r e1 e2 k hg
    · cases hf
  | [.list (x :: xs)], hf =>
    obtain ⟨v, rfl, d1⟩ := dqAll1 hd
    simp only [maxF] at hf
    split at hf
    · rename_i ha
      cases hf
      obtain ⟨ha, hdp⟩ := allAlike_of ha
      cases d1 with
      | lst h1 h2 =>
        obtain ⟨u, rfl, ru⟩ := vals1 r
        cases ru
        obtain ⟨its, rv, pl, hz⟩ := I.list (SqL.of (sm _ _ h1))
        obtain ⟨as, rd⟩ := Dp.readsAll I _ _ _ (dpAll_of (dpAll_same sm h2)) rv
        refine PySem.W.greatest_of_list (I.ok.hd hc) pl.isList rd ha (by have := hr.un; omega) fun i v h' tk e1 e2 k => ?_
        exact pick_item I sm h2 rv (by simpa using e1) e2 k hg
    · cases hf
theorem de_min (hc : X.calm = true) {k : Nat} (hr : Room k X.A) (hm : X.mg "min" = none) (ha : DA X W (e :: es) wr) (hg : Gl X "min" := by rfl) (hs : starEach (e :: es) X.env = (false, eval e X.env) :: starEach es X.env := by rfl) (hp : (backTo pos (starEach es X.env)).any (·.1) = false := by rfl) :
    DE X W (.Call (.Name "min" p) (e :: es) [] pos) (wCallF minF wr) := de_callB (cr_min hc hr) (callD_dat minF) hg hm (by decide +kernel) ha (by decide) (by decide) hs hp
theorem de_max (hc : X.calm = true) {k : Nat} (hr : Room k X.A) (hm : X.mg "max" = none) (ha : DA X W (e :: es) wr) (hg : Gl X "max" := by rfl) (hs : starEach (e :: es) X.env = (false, eval e X.env) :: starEach es X.env := by rfl) (hp : (backTo pos (starEach es X.env)).any (·.1) = false := by rfl) :
    DE X W (.Call (.Name "max" p) (e :: es) [] pos) (wCallF maxF wr) := de_callB (cr_max hc hr) (callD_dat maxF) hg hm (by decide +kernel) ha (by decide) (by decide) hs hp
/-- sep.join(list of texts) -/
def txts : List PyData → Option (List Str)
  | [] => some []
  | .str x :: ds => (txts ds).map (x :: ·)
  | _ :: _ => none
theorem txts_vals {G : Hp} : ∀ {vs : List V} {ds : List PyData} {ss : List Str}, DqAll G vs ds → txts ds = some ss → vs = ss.map V.str
  | _, _, _, .nil, e => by
    cases e
    rfl
  | _, .str b :: ds, bs, .cons h t, e => by
    cases h
    simp only [txts, Option.map_eq_some_iff] at e
    obtain ⟨l, h1, rfl⟩ := e
    rw [txts_vals t h1]
    rfl
theorem txts_map (ss : List Str) : txts (ss.map .str) = some ss := by
  induction ss with
  | nil => rfl
  | cons b bs ih => simp [txts, ih]
def joinF : PyData → PyData → Option PyData
  | .str x, .list ds => (txts ds).bind fun ys => if (ys.map (·.length)).sum + ys.length * x.length ≤ 16777216 then some (.str (Txt.join x ys)) else none
  | _, _ => none
def wJoin (wa wb : WE) : WE := fun δ Q E => wa δ (fun x δ1 => (∃ t, x = .str t) ∧ wb δ1 (fun y δ2 => ∃ z, joinF x y = some z ∧ Q z δ2) E) E
theorem wJoin_mono (ha : MonoE wa) (hb : MonoE wb) : MonoE (wJoin wa wb) := fun δ Q Q' E E' hq he h => ha _ _ _ _ _ (fun x δ1 ⟨h0, h1⟩ => ⟨h0, hb _ _ _ _ _ (fun y δ2 ⟨z, h2, h3⟩ => ⟨z, h2, hq _ _ h3⟩) he h1⟩) he h
theorem de_join {o : Expr} {apos : Pos} (ho : DE X W o wa) (he : DE X W e wb) (hs : starEach [e] X.env = [(false, eval e X.env)] := by rfl) (hbase : attributeBase o "join" X.env (eval o X.env) = eval o X.env := by rfl) (hline : (apos.endLine == pos.line) = true := by rfl) :
    DE X W (.Call (.Attribute o "join" apos) [e] [] pos) (wJoin wa wb) := by
  refine ⟨pe_imp (pe_join ho.pe he.pe hs hbase hline) fun σ H Q hh => ?_, wJoin_mono ho.mono he.mono⟩
  obtain ⟨B, G, F, δ, R, h⟩ := hh
  refine ⟨B, G, F, δ, R, ho.mono _ _ _ _ _ (fun x δ1 h1 => ?_) (fun _ _ z => z) h⟩
  intro G1 H1 v1 g1 R1 d1
  obtain ⟨⟨t, rfl⟩, h1⟩ := h1
  cases d1
  refine ⟨⟨t, rfl⟩, B, G1, F, δ1, R1, he.mono _ _ _ _ _ (fun y δ2 h2 => ?_) (xL_up g1) h1⟩
  intro G2 H2 v2 g2 R2 d2
  obtain ⟨z, hz, hq⟩ := h2
  cases d2 <;> simp only [joinF, reduceCtorEq] at hz
  rename_i a5 xs5 ds5 h5 h6
  simp only [Option.bind_eq_some_iff] at hz
  obtain ⟨ys, h7, h8⟩ := hz
  split at h8
  · rename_i hl
    cases h8
    have e7 := txts_vals h6 h7
    subst e7
    exact ⟨t, _, ys, rfl, rfl, .inl (SqL.of (R2.g _ _ h5)), hl, hq G2 H2 _ (g1.trans g2) R2 (.str _)⟩
  · cases h8
end
end RD

/-! The data layer, part i: how the data readings are shown. -/
namespace RD
open PySem L2
theorem for_ind {set : PyData → DS → Option DS} {body : WS} {D : WEnds} (I : List PyData → DS → Prop) (h0 : ∀ δ, I [] δ → D.nx δ)
    (hs : ∀ x xs δ, I (x :: xs) δ → (∀ δ', I xs δ' → wForL set body xs δ' D) → wForL set body (x :: xs) δ D) : ∀ xs δ, I xs δ → wForL set body xs δ D
  | [], δ, h => h0 δ h
  | x :: xs, δ, h => hs x xs δ h fun δ' h' => for_ind I h0 hs xs δ' h'
theorem lc_ind {set : PyData → DS → Option DS} {is : List Nat} {wt : WT} {we : WE} {Q : List PyData → DS → Prop} (I : List PyData → DS → List PyData → Prop) (h0 : ∀ δ acc, I [] δ acc → Q acc δ)
    (hs : ∀ x xs δ acc, I (x :: xs) δ acc → (∀ δ' acc', I xs δ' acc' → wLcL set is wt we xs δ' acc' Q) → wLcL set is wt we (x :: xs) δ acc Q) : ∀ xs δ acc, I xs δ acc → wLcL set is wt we xs δ acc Q
  | [], δ, acc, h => h0 δ acc h
  | x :: xs, δ, acc, h => hs x xs δ acc h fun δ' acc' h' => lc_ind I h0 hs xs δ' acc' h'
theorem lc_step {set : PyData → DS → Option DS} {is : List Nat} {we : WE} {Q : List PyData → DS → Prop} {x : PyData} {xs acc : List PyData} {δ δ1 : DS} (e : set x δ = some δ1) (h : we δ1 (fun y δ3 => acc.length < sizeLine ∧ wLcL set is wYes we xs (wipeD δ3 is) (acc ++ [y]) Q) noX) : wLcL set is wYes we (x :: xs) δ acc Q := by
  refine ⟨δ1, e, ?_⟩
  show (fun (b : Bool) (δ2 : DS) => if b = true then we δ2 (fun y δ3 => acc.length < sizeLine ∧ wLcL set is wYes we xs (wipeD δ3 is) (acc ++ [y]) Q) noX else wLcL set is wYes we xs (wipeD δ2 is) acc Q) true δ1
  exact iteT h
/-- a comprehension whose elements are a function of the items, the slots as they were -/
theorem lc_map {set : PyData → DS → Option DS} {is : List Nat} {we : WE} {Q : List PyData → DS → Prop} {δ : DS} (f : PyData → PyData) : ∀ (items acc : List PyData), (∀ x ∈ items, ∃ δ1, set x δ = some δ1 ∧ ∀ P : PyData → DS → Prop, (∀ δ2, wipeD δ2 is = δ → P (f x) δ2) → we δ1 P noX) →
    acc.length + items.length ≤ sizeLine → Q (acc ++ items.map f) δ → wLcL set is wYes we items δ acc Q
  | [], acc, _, _, q => by
    show Q acc δ
    simpa using q
  | x :: xs, acc, h, hl, q => by
    obtain ⟨δ1, e1, h1⟩ := h x List.mem_cons_self
    refine ⟨δ1, e1, ?_⟩
    show (fun (b : Bool) (δ2 : DS) => if b = true then we δ2 (fun y δ3 => acc.length < sizeLine ∧ wLcL set is wYes we xs (wipeD δ3 is) (acc ++ [y]) Q) noX else wLcL set is wYes we xs (wipeD δ2 is) acc Q) true δ1
    refine iteT ?_
    refine h1 _ fun δ2 e2 => ⟨by simp at hl; omega, ?_⟩
    rw [e2]
    refine lc_map f xs (acc ++ [f x]) (fun y hy => h y (List.mem_cons_of_mem _ hy)) (by simp at hl ⊢; omega) ?_
    simpa using q
/-- .. with a test -/
theorem lc_filter {set : PyData → DS → Option DS} {is : List Nat} {wt : WT} {we : WE} {Q : List PyData → DS → Prop} {δ : DS} (p : PyData → Bool) (f : PyData → PyData) : ∀ (items acc : List PyData),
    (∀ x ∈ items, ∃ δ1, set x δ = some δ1 ∧ ∀ P : Bool → DS → Prop, (∀ δ2, wipeD δ2 is = δ → (p x = true → ∀ P' : PyData → DS → Prop, (∀ δ3, wipeD δ3 is = δ → P' (f x) δ3) → we δ2 P' noX) → P (p x) δ2) → wt δ1 P noX) →
    acc.length + items.length ≤ sizeLine → Q (acc ++ (items.filter p).map f) δ → wLcL set is wt we items δ acc Q
  | [], acc, _, _, q => by
    show Q acc δ
    simpa using q
  | x :: xs, acc, h, hl, q => by
    obtain ⟨δ1, e1, h1⟩ := h x List.mem_cons_self
    refine ⟨δ1, e1, h1 _ fun δ2 e2 h2 => ?_⟩
    by_cases hp : p x = true
    · rw [if_pos hp]
      refine h2 hp _ fun δ3 e3 => ⟨by simp at hl; omega, ?_⟩
      rw [e3]
      refine lc_filter p f xs (acc ++ [f x]) (fun y hy => h y (List.mem_cons_of_mem _ hy)) (by simp at hl ⊢; omega) ?_
      rw [List.filter_cons_of_pos hp] at q
      simpa using q
    · rw [if_neg hp, e2]
      refine lc_filter p f xs acc (fun y hy => h y (List.mem_cons_of_mem _ hy)) (by simp at hl ⊢; omega) ?_
      rw [List.filter_cons_of_neg hp] at q
      exact q
theorem wOr_val {t u : WT} {p q : Bool} {δ : DS} {Q : Bool → DS → Prop} {E : XC} (ht : ∀ P : Bool → DS → Prop, P p δ → t δ P E) (hu : ∀ P : Bool → DS → Prop, P q δ → u δ P E) (h : Q (p || q) δ) : wOr t u δ Q E := by
  refine ht _ ?_
  cases p with
  | true => exact iteT h
  | false => exact iteF (hu _ h)
theorem wAnd_val {t u : WT} {p q : Bool} {δ : DS} {Q : Bool → DS → Prop} {E : XC} (ht : ∀ P : Bool → DS → Prop, P p δ → t δ P E) (hu : p = true → ∀ P : Bool → DS → Prop, P q δ → u δ P E) (h : Q (p && q) δ) : wAnd t u δ Q E := by
  refine ht _ ?_
  cases p with
  | true => exact iteT (hu rfl _ h)
  | false => exact iteF h
theorem if_true_of' {c A B : Prop} [Decidable c] (hc : c) (h : A) : if decide c = true then A else B := by
  rw [decide_eq_true hc]
  exact iteT h
theorem if_false_of' {c A B : Prop} [Decidable c] (hc : ¬ c) (h : B) : if decide c = true then A else B := by
  rw [decide_eq_false hc]
  exact iteF h
/-! steps of a block -/
theorem s_set {i : Nat} {w : WE} {t : WS} {δ : DS} {D : WEnds} (h : w δ (fun x δ' => t (δ'.set i (.d x)) D) D.ex) : wSeq (wSet i w) t δ D := h
theorem s_setN {i : Nat} {w : WN} {t : WS} {δ : DS} {D : WEnds} (h : w δ (fun k δ' => t (δ'.set i (.own k)) D) D.ex) : wSeq (wSetN i w) t δ D := h
theorem s_if {c : WT} {u v t : WS} {δ : DS} {D : WEnds} (h : c δ (fun b δ1 => if b = true then wSeq u t δ1 D else wSeq v t δ1 D) D.ex) : wSeq (wIfS c u v) t δ D := h
theorem s_for {wi : WI} {set : PyData → DS → Option DS} {u t : WS} {δ : DS} {D : WEnds} (h : wi δ (fun items δ' => wForL set u items δ' { D with nx := fun δ' => t δ' D }) D.ex) : wSeq (wFor wi set u) t δ D := h
theorem call_of {T : PT} {w : WA} {δ δ' : DS} {Q : PyData → DS → Prop} {E : XC} (ds : List PyData) (hw : ∀ P : List PyData → DS → Prop, P ds δ' → w δ P E) (h : T ds (fun d => Q d δ') (fun c => E c δ')) : wCall T w δ Q E := hw _ h
theorem op_of {f : PyData → PyData → Option PyData} {wa wb : WE} {δ δ' : DS} {Q : PyData → DS → Prop} {E : XC} {x y z : PyData} (hw : ∀ P : PyData → PyData → DS → Prop, P x y δ' → wa δ (fun x δ1 => wb δ1 (fun y δ2 => P x y δ2) E) E) (e : f x y = some z) (h : Q z δ') : wOp f wa wb δ Q E := hw (fun x y δ2 => ∃ z, f x y = some z ∧ Q z δ2) ⟨z, e, h⟩
theorem le_line {n : Nat} (h : n ≤ 100000) : n ≤ sizeLine := Nat.le_trans h (by decide)
theorem lt_line {n : Nat} (h : n < 100000) : n < sizeLine := Nat.lt_of_lt_of_le h (by decide)

theorem mul_l {i j : Int} (h : -(2 ^ 64) < i ∧ i < 2 ^ 64) : mulD (.int i) (.int j) = some (.int (i * j)) := if_pos (.inl h)
theorem mul_r {i j : Int} (h : -(2 ^ 64) < j ∧ j < 2 ^ 64) : mulD (.int i) (.int j) = some (.int (i * j)) := if_pos (.inr h)
theorem mod_i {i j : Int} (h : 0 < j) : modD (.int i) (.int j) = some (.int (i % j)) := if_pos h
theorem fdiv_i {i j : Int} (h : 0 < j ∧ j < 1073741824) : fdivD (.int i) (.int j) = some (.int (i / j)) := if_pos h
theorem pow_i {i j : Int} (h : CPow i j) : powD (.int i) (.int j) = some (.int (i ^ j.toNat)) := if_pos h

/-! ### texts as lists of codes -/
abbrev St (l : List Nat) : Str := ⟨l.toArray⟩
abbrev S (l : List Nat) : PyData := .str (St l)
theorem str_eta (z : Str) : St z.cps.toList = z := by
  obtain ⟨a⟩ := z
  simp [St]
theorem S_eta (z : Str) : S z.cps.toList = .str z := by rw [S, str_eta]
theorem empty_St : ("" : Str) = St [] := by decide +kernel
theorem St_len (l : List Nat) : (St l).length = l.length := by simp [Str.length]
theorem St_inj {a b : List Nat} : St a = St b ↔ a = b := by
  constructor
  · intro h
    have := congrArg (fun z : Str => z.cps.toList) h
    simpa using this
  · intro h
    rw [h]
theorem len_S {l : List Nat} (h : l.length ≤ 100000) : lenD [S l] = some (.int l.length) := by
  simp only [lenD, St_len]
  rw [if_pos (le_line h)]
theorem St_app (a b : List Nat) : St a ++ St b = St (a ++ b) := by
  show (⟨(St a).cps ++ (St b).cps⟩ : Str) = _
  simp [St]
theorem add_S {a b : List Nat} (h : a.length + b.length ≤ 100000) : addD (S a) (S b) = some (S (a ++ b)) := by
  simp only [addD, St_len]
  rw [if_pos (le_line h), St_app]
theorem eqv_S (a b : List Nat) : PyData.eqv (S a) (S b) = decide (a = b) := by
  simp only [PyData.eqv]
  by_cases h : a = b
  · subst h
    simp
  · have : ¬ St a = St b := fun z => h (St_inj.mp z)
    rw [decide_eq_false h]
    simpa using this
theorem eq_S (a b : List Nat) : eqD (S a) (S b) = some (.bool (decide (a = b))) := by
  show (if true = true then some (PyData.bool ((S a).eqv (S b))) else none) = _
  rw [if_pos rfl, eqv_S]
theorem ne_S (a b : List Nat) : neD (S a) (S b) = some (.bool (!decide (a = b))) := by
  show (if true = true then some (PyData.bool (!(S a).eqv (S b))) else none) = _
  rw [if_pos rfl, eqv_S]
/-- a slice of a list by optional ends -/
def cut {α : Type} (l : List α) (lo hi : Option Int) : List α := (l.drop (HT.sIx l.length 0 lo)).take (HT.sIx l.length l.length hi - HT.sIx l.length 0 lo)
theorem cutS_St (l : List Nat) (lo hi : Option Int) : cutS (St l) lo hi = St (cut l lo hi) := by
  unfold cutS cut
  rw [St_len]
theorem sl_S {l : List Nat} {lo hi : Option Int} (h : l.length ≤ 100000) : slD (S l) lo hi = some (S (cut l lo hi)) := by
  simp only [slD, St_len]
  rw [if_pos (le_line h), cutS_St]
theorem sIx_int {n d : Nat} {k : Int} {j : Nat} (h : k = (j : Int)) (hj : j ≤ n) : HT.sIx n d (some k) = j := by
  subst h
  rw [HT.sIx_nat]
  omega
theorem cut_from {α : Type} (l : List α) {k : Int} {j : Nat} (h : k = (j : Int)) : cut l (some k) none = l.drop j := by
  subst h
  unfold cut
  rw [HT.sIx_nat, HT.sIx_none, List.take_of_length_le (by simp)]
  by_cases hj : j ≤ l.length
  · rw [Nat.min_eq_left hj]
  · rw [Nat.min_eq_right (by omega), List.drop_length, List.drop_of_length_le (by omega)]
theorem cut_to {α : Type} (l : List α) {k : Int} {j : Nat} (h : k = (j : Int)) : cut l none (some k) = l.take j := by
  subst h
  unfold cut
  rw [HT.sIx_nat, HT.sIx_none, List.drop_zero, Nat.sub_zero]
  by_cases hj : j ≤ l.length
  · rw [Nat.min_eq_left hj]
  · rw [Nat.min_eq_right (by omega), List.take_length, List.take_of_length_le (by omega)]
theorem cut_at {α : Type} (l : List α) {k m : Int} {i j : Nat} (h : k = (i : Int)) (h' : m = (j : Int)) : cut l (some k) (some m) = (l.take j).drop i := by
  subst h h'
  unfold cut
  rw [HT.sIx_nat, HT.sIx_nat, List.drop_take]
  by_cases h1 : i ≤ l.length
  · rw [Nat.min_eq_left h1]
    by_cases h2 : j ≤ l.length
    · rw [Nat.min_eq_left h2]
    · rw [Nat.min_eq_right (by omega), List.take_of_length_le (by simp), List.take_of_length_le (by simp; omega)]
  · have h3 : min i l.length = l.length := Nat.min_eq_right (by omega)
    rw [h3, List.drop_length, List.drop_of_length_le (by omega), List.take_nil, List.take_nil]
theorem chrs_S (l : List Nat) : chrs (St l) = l.map fun c => S [c] := by simp [chrs, St, S]
/-- a word in another one -/
def infixB (a b : List Nat) : Bool := (List.range (b.length + 1)).any fun i => decide ((b.drop i).take a.length = a)
theorem infixB_iff {a b : List Nat} : infixB a b = true ↔ ∃ u v, b = u ++ a ++ v := by
  unfold infixB
  simp only [List.any_eq_true, List.mem_range, decide_eq_true_eq]
  constructor
  · rintro ⟨i, hi, h⟩
    refine ⟨b.take i, (b.drop i).drop a.length, ?_⟩
    rw [List.append_assoc]
    conv => lhs; rw [← List.take_append_drop i b]
    congr 1
    conv => lhs; rw [← List.take_append_drop a.length (b.drop i)]
    rw [h]
  · rintro ⟨u, v, rfl⟩
    refine ⟨u.length, by simp; omega, ?_⟩
    rw [List.append_assoc, List.drop_left, List.take_left]
theorem in_S (a b : List Nat) : inD (S a) (S b) = some (.bool (infixB a b)) := by
  simp only [inD]
  congr 2
  rw [Bool.eq_iff_iff, StrLaws.found_iff]
  unfold infixB
  simp only [List.any_eq_true, List.mem_range, decide_eq_true_eq, St_len]
  constructor
  · rintro ⟨i, h1, h2⟩
    rw [StrLaws.subAt_eq] at h2
    exact ⟨i, by omega, by simpa [St_len] using h2⟩
  · rintro ⟨i, h1, h2⟩
    have hl := congrArg List.length h2
    simp only [List.length_take, List.length_drop] at hl
    refine ⟨i, by omega, ?_⟩
    rw [StrLaws.subAt_eq]
    simpa [St_len] using h2
theorem notIn_S (a b : List Nat) : notInD (S a) (S b) = some (.bool (!infixB a b)) := by
  have h := in_S a b
  simp only [inD, Option.some.injEq, PyData.bool.injEq] at h
  simp only [notInD, h]
/-! ### words -/
def letB (c : Nat) : Bool := c == 97 || c == 98 || c == 99 || c == 100
def wordB (l : List Nat) : Bool := decide (l.length ≤ 12) && l.all letB
def isWordD : PyData → Bool
  | .str z => wordB z.cps.toList
  | _ => false
theorem isWord_S (l : List Nat) : isWordD (S l) = wordB l := by simp [isWordD, S, St]
/-- every text is of few signs here -/
def fewD : PyData → Bool
  | .str z => decide (z.length ≤ 100000)
  | _ => true
theorem infix_one (c : Nat) (l : List Nat) : infixB [c] l = decide (c ∈ l) := by
  rw [Bool.eq_iff_iff, infixB_iff, decide_eq_true_eq]
  constructor
  · rintro ⟨u, v, rfl⟩
    simp
  · intro h
    obtain ⟨u, v, rfl⟩ := List.append_of_mem h
    exact ⟨u, v, by simp⟩
theorem in_letters (c : Nat) : infixB [c] [97, 98, 99, 100] = letB c := by
  rw [infix_one, Bool.eq_iff_iff]
  unfold letB
  simp [or_assoc]
theorem abcd : ("abcd" : Str) = St [97, 98, 99, 100] := by decide +kernel
theorem wordB_len {l : List Nat} (h : wordB l = true) : l.length ≤ 12 := by
  unfold wordB at h
  simp only [Bool.and_eq_true, decide_eq_true_eq] at h
  exact h.1
theorem wordB_let {l : List Nat} (h : wordB l = true) : ∀ c ∈ l, letB c = true := by
  unfold wordB at h
  simp only [Bool.and_eq_true, List.all_eq_true] at h
  exact h.2
theorem wordB_mk {l : List Nat} (h1 : l.length ≤ 12) (h2 : ∀ c ∈ l, letB c = true) : wordB l = true := by
  unfold wordB
  simp only [Bool.and_eq_true, decide_eq_true_eq, List.all_eq_true]
  exact ⟨h1, h2⟩
theorem detT_ok {f : List PyData → Option Res} {ds : List PyData} {d : PyData} {Q : PyData → Prop} {E : Value → Prop} (h : f ds = some (.ok d)) : detT f ds Q E ↔ Q d := by
  unfold detT
  rw [h]
theorem detT_exc {f : List PyData → Option Res} {ds : List PyData} {c : Addr} {Q : PyData → Prop} {E : Value → Prop} (h : f ds = some (.exc c)) : detT f ds Q E ↔ E (.ref c) := by
  unfold detT
  rw [h]
/-! ### joined signs -/
theorem txts_chars (l : List Nat) : txts (l.map fun c => S [c]) = some (l.map fun c => St [c]) := by
  have := txts_map (l.map fun c => St [c])
  rwa [List.map_map] at this
theorem join_none (ys : List Str) : Str.join "" ys = St (ys.map fun z => z.cps.toList).flatten := by
  have app : ∀ x y : Str, (x ++ y).cps.toList = x.cps.toList ++ y.cps.toList := fun x y => by
    show (x.cps ++ y.cps).toList = _
    simp
  have key : ∀ ys : List Str, (Str.join "" ys).cps.toList = (ys.map fun z => z.cps.toList).flatten := by
    intro ys
    induction ys with
    | nil => rfl
    | cons y ys ih =>
      cases ys with
      | nil => simp [Str.join]
      | cons z zs =>
        show (y ++ "" ++ Str.join "" (z :: zs)).cps.toList = _
        rw [app, app, ih]
        simp [empty_St]
  rw [← key, str_eta]
theorem join_chars {l : List Nat} (h : l.length ≤ 100000) : joinF (.str "") (.list (l.map fun c => S [c])) = some (S l) := by
  simp only [joinF]
  rw [txts_chars]
  show (if _ then _ else _) = _
  have e0 : ("" : Str).length = 0 := rfl
  have e1 : ((l.map fun c => St [c]).map (·.length)).sum = l.length := by
    have : ∀ l : List Nat, ((l.map fun c => St [c]).map (·.length)).sum = l.length := fun l => by
      induction l with
      | nil => rfl
      | cons c l ih =>
        rw [List.map_cons, List.map_cons, List.sum_cons, ih, St_len]
        simp
        omega
    exact this l
  rw [if_pos (by rw [e1, e0]; simp; omega), TL.join_eq, join_none]
  congr 2
  rw [List.map_map]
  have : ∀ l : List Nat, (l.map ((fun z : Str => z.cps.toList) ∘ fun c => St [c])).flatten = l := fun l => by
    induction l with
    | nil => rfl
    | cons c l ih => simpa using ih
  rw [this]
end RD

/-! The data layer, part j: what is called while an exception is handled. -/
namespace RD
open PySem PySem.Spec PyProof.Rows L2
/-- a def that is called while p is handled; its promise may speak of p -/
def HotRun (P : Program) (w : World) (K : PySem.W.Frag) (mg : Str → Option Value) (base : Heap) (k : Nat) (f : Addr) (fd : FuncData) (ps : List Str) (sp : Addr × Obj → Sp) : Prop :=
  ∀ (p : Addr × Obj) (A : Around) (outer : List Env) (s : Shared) (H : Hp) (ar : Args) (us : List Value) (vs : List V) (Q : VK) (E : XK),
    L2H.RoomH k A → L2H.Hot1 A p → L2H.PinOk outer H s p → Env0 P w K mg base A outer s H → BindsTo s fd ar (ps.zip us) → Vals vs us → sp p vs H Q E →
    codeAny (model P w) A (.call (.ref f) ar) (CR (L2N.CX P w) outer P w H s Q E) s
section
variable {P : Program} {w : World} {K : PySem.W.Frag} {mg : Str → Option Value} {base : Heap}
theorem hotRun_of {k : Nat} {f : Addr} {name qual : Str} {pa : Arguments} {bd : List Stmt} {sc : Scope} {oc dV kV dc pm cd ct : Value} {an od : Option Addr} {sl : Array (Option Value)} {N ps : List Str} {sp : Addr × Obj → Sp}
    (lk : K.lookup f = some ⟨oc, od, .func (PySem.W.fnOf name qual pa bd sc dV kV dc pm an cd ct), sl⟩) (hcd : PySem.W.codeIn K cd qual = true) (S : FnScope N ps sc) (len : ∀ p vs H Q E, sp p vs H Q E → vs.length = ps.length)
    (hbd : ∀ (A : Around) (outer : List Env) (s : Shared) (H : Hp) (vs : List V) (Q : VK) (E : XK) (p : Addr × Obj), L2H.Hot1 A p → L2H.RoomH k (A.deeper (envOfC qual sc s.heap.objs.size f cd)) → sp p vs H Q E →
      ∃ t, PSs (L2H.cxH (L2N.CX P w) P w K mg base N qual sc f cd A outer s H E p) bd t ∧ t { nx := fun _ H' => Q .non H', rt := Q } (L2.start N vs) H) :
    HotRun P w K mg base (k + 1) f (PySem.W.fnOf name qual pa bd sc dV kV dc pm an cd ct) ps sp := by
  intro p A outer s H ar us vs Q E room hot pin e0 bt rv want
  have keep : ∀ a o, base.get? a = some o → s.heap.get? a = some o := fun a o z => (e0.bs a o z).1
  have kin : K.In s.heap := e0.mod.kin.keeps keep
  have kinds : ∀ y ∈ ps.zip us, sc.names.lookup y.1 = some .local ∨ (sc.names.lookup y.1 = some .cell ∧ ((cellsFrom (s.heap.objs.size + 1) sc.names []).lookup y.1).isSome = true) := by
    rintro ⟨n, v⟩ hy
    rcases S.par n (List.of_mem_zip hy).1 with z | z
    · exact Or.inl z
    · exact Or.inr ⟨z, PySem.W.cellsFrom_some _ _ _ (Or.inl z)⟩
  refine codeAny_call_function room.depth (kin _ _ lk) rfl S.co S.gen rfl (PySem.W.codeRec_of kin hcd) (bt _ _ _ _ (wpAny_newFunctionEnv_cells S.kind kinds fun env ev s1 made => ?_))
  cases ev
  refine ⟨(e0.mod.nolimit.keeps keep).keeps made.toInCall.keep, codeAny_func ?_⟩
  obtain ⟨t, tie, hq⟩ := hbd A outer s H vs Q E p hot (room.deeper _) want
  have inv : Inv (L2H.cxH (L2N.CX P w) P w K mg base N qual sc f cd A outer s H E p) [] (L2.start N vs) H s1 := L2H.inv_startH S pin e0 (len _ _ _ _ _ want) rv made
  refine wpAny_mono (tie.run [] s1 (L2.start N vs) H _ inv hq) (fun fl s2 got => ?_) fun _ _ z => z
  cases fl with
  | next =>
    obtain ⟨σ2, H2, J, z⟩ := got
    exact ⟨.non, H2, J.os, J.bare, J.base, J.hok, rfl, z⟩
  | ret u =>
    obtain ⟨v, σ2, H2, J, r2, z⟩ := got
    exact ⟨v, H2, J.os, J.bare, J.base, J.hok, r2, z⟩
  | brk =>
    obtain ⟨_, _, _, z⟩ := got
    exact z.elim
  | cont =>
    obtain ⟨_, _, _, z⟩ := got
    exact z.elim
end
section
variable {X : Cx} {k : Nat} {f : Addr} {fd : FuncData} {ps : List Str} {sp : Addr × Obj → Sp} {x : Str} {q pos : Pos} {e : Expr} {es : List Expr} {t : TA}
/-- such a def called where nothing may be raised -/
theorem pe_hot {p : Addr × Obj} (F : HotRun X.prog X.w X.K X.mg X.base k f fd ps sp) (hl : ∀ vs H Q E, sp p vs H Q E → vs.length = ps.length) (room : L2H.RoomH k X.A) (hot : L2H.Hot1 X.A p) (mem : p ∈ X.pn) (hg : Gl X x) (hm : X.mg x = some (.ref f)) (hk : PySem.W.keepIn X.K (.ref f) = true) (hb : Binds X.K fd ps [])
    (ha : PA X (e :: es) t) (hdb : (x == ("__debug__" : Str)) = false := by decide) (he : starEach (e :: es) X.env = (false, eval e X.env) :: starEach es X.env := by rfl) (hpl : (backTo pos (starEach es X.env)).any (·.1) = false := by rfl) :
    PE X (.Call (.Name x q) (e :: es) [] pos) (fun σ H Q => t σ H fun vs H1 => sp p vs H1 Q (fun _ _ _ => False)) := by
  refine ⟨fun pins s σ H Q I h => wpAny_Call_Name_kw (ld_glob I hg hm (PySem.W.callWith_K (h₀ := X.base) I.ok.mod.kin hk (thn (ha.run pos pins s σ H _ I h) fun us s1 got => ?_) he hpl) hdb)⟩
  obtain ⟨vs, H1, I1, rv, want⟩ := got
  refine ⟨I1.kIn, wpAny_call (codeAny_mono (F p X.A X.stack s1 H1 ⟨us, []⟩ us vs Q (fun _ _ _ => False) room hot ?_ I1.env0 ?_ rv want) fun r s2 z => ?_)⟩
  · have P1 := I1.pin p (List.mem_append_left _ mem)
    exact ⟨P1.1, P1.2.1, fun hm => (List.mem_cons.mp (I1.stkSub p.1 hm)).elim P1.2.2.1 P1.2.2.2.1, P1.2.2.2.2⟩
  · have hn : us.length = ps.length := by
      rw [← rv.length]
      exact hl _ _ _ _ want
    have b := hb s1 us I1.kIn (by rw [List.append_nil]; exact hn)
    rwa [List.append_nil] at b
  · cases r with
    | error z' =>
      obtain ⟨_, _, _, _, _, _, _, _, _, _, _, _, z⟩ := z
      exact z.elim
    | ok fl =>
      cases fl with
      | ret u => exact I1.after z
      | next => exact z.elim
      | brk => exact z.elim
      | cont => exact z.elim
end
/-! ### isinstance of the handled exception -/
section
variable {X : Cx} {W : WX} {pos p1 p2 p3 : Pos}
theorem call_isPin {a D : Addr} {oe : Obj} (C : ExcC X.K D) (mem : (a, oe) ∈ X.pn) (hc : oe.cls = .ref D) (hd : oe.dict = none) (hf : ∃ vs, oe.data = .fields vs) : CallR X (.builtin "isinstance") (rIsE X.K D a) := by
  rintro pins s σ H xs us Q I r ⟨c, cv, b, rfl, only, e, want⟩
  obtain ⟨u, w', rfl, r1, r2⟩ := vals2 r
  cases r1
  cases only _ r2
  have there := (I.pin (a, oe) (List.mem_append_left _ mem)).1
  have inst : PySem.W.InstAt s.heap a oe D none := by
    obtain ⟨k1, k2, k3, k4⟩ := oe
    obtain ⟨vs, hv⟩ := hf
    dsimp only at hc hd hv
    subst hc hd hv
    exact ⟨there, rfl, rfl, trivial⟩
  refine PySem.W.kia_one (PySem.W.handS_kitx_exc C.hg C.hk C.hs C.hd C.ha C.hn C.ht C.hm) I.kIn inst e (fun z => nomatch z) fun tk => ?_
  exact ⟨.bl b, H, I.kept (t' := tk) fun _ _ z => z, rfl, want⟩
def wIsE (i : Nat) (a : Addr) (b : Bool) : WE := fun δ Q _ => δ[i]? = some (.raw (.ref a)) ∧ Q (.bool b) δ
theorem wIsE_mono (i : Nat) (a : Addr) (b : Bool) : MonoE (wIsE i a b) := fun _ _ _ _ _ hq _ ⟨h1, h2⟩ => ⟨h1, hq _ _ h2⟩
/-- a class's name: an own one or a built-in one -/
def ClsName (X : Cx) (x : Str) (c : V) (cv : Value) : Prop := RelV c cv ∧ (∀ u, RelV c u → u = cv) ∧ Gl X x ∧ (x == ("__debug__" : Str)) = false ∧ (X.mg x = some cv ∨ (X.mg x = none ∧ bootBuiltins x = some cv ∧ x ≠ "__name__"))
theorem cls_own {x : Str} {C : Addr} (hm : X.mg x = some (.ref C)) (hg : Gl X x := by rfl) (hd : (x == ("__debug__" : Str)) = false := by decide) : ClsName X x (.ref C) (.ref C) := ⟨rfl, fun _ h => h, hg, hd, .inl hm⟩
theorem cls_blt {x : Str} {n : String} (hm : X.mg x = none) (hb : bootBuiltins x = some (.type n)) (hg : Gl X x := by rfl) (hd : (x == ("__debug__" : Str)) = false := by decide) (hn : x ≠ "__name__" := by decide) : ClsName X x (.ty n) (.type n) := ⟨rfl, fun _ h => h, hg, hd, .inr ⟨hm, hb, hn⟩⟩
theorem pe_cls {x : Str} {c : V} {cv : Value} (h : ClsName X x c cv) : PE X (.Name x pos) (tC c) := by
  obtain ⟨h1, h2, h3, h4, h5 | ⟨h5, h6, h7⟩⟩ := h
  · exact pe_glob h3 h5 h1 h4
  · exact pe_bltn h3 h5 h6 h1 h7 h4
theorem de_isE {i : Nat} {n x : Str} {a D : Addr} {oe : Obj} {c : V} {cv : Value} {b : Bool} (C : ExcC X.K D) (mem : (a, oe) ∈ X.pn) (hc : oe.cls = .ref D) (hd : oe.dict = none) (hf : ∃ vs, oe.data = .fields vs) (hk : PySem.W.kitOne X.K (.ref D) cv = some b) (hm : X.mg "isinstance" = none)
    (hn : PE X (.Name n p1) (tVar i)) (hx : ClsName X x c cv) (hgi : Gl X "isinstance" := by rfl) (hv : bootBuiltins "isinstance" = some (.builtin "isinstance") := by decide +kernel)
    (hs : starEach [.Name n p1, .Name x p2] X.env = (false, eval (.Name n p1) X.env) :: starEach [.Name x p2] X.env := by rfl) (hs2 : starEach [.Name x p2] X.env = (false, eval (.Name x p2) X.env) :: starEach [] X.env := by rfl)
    (hp : (backTo pos (starEach [.Name x p2] X.env)).any (·.1) = false := by rfl) :
    DE X W (.Call (.Name "isinstance" p3) [.Name n p1, .Name x p2] [] pos) (wIsE i a b) := by
  have h1 : PA X [.Name n p1, .Name x p2] (tCons (tVar i) (tCons (tC c) tNil)) := pa_cons hn (pa_cons (pe_cls hx) pa_nil hs2) hs
  refine ⟨pe_imp (pe_callB (call_isPin C mem hc hd hf) hgi hm hv h1 (by decide) (by decide) hs hp) fun σ H Q hh => ?_, wIsE_mono i a b⟩
  obtain ⟨B, G, F, δ, R, h0, h⟩ := hh
  have z := R.slot i _ h0
  exact ⟨_, z, c, cv, b, rfl, hx.2.1, hk, h G H _ (Gr.refl F G) R (.bl b)⟩
end
/-! ### l.count(x), l.index(x) -/
section
variable {X : Cx} {W : WX} {o e : Expr} {wo we : WE} {apos cpos : Pos}
def countD : PyData → PyData → Option PyData
  | .list ds, d => if SeqAt.shaped (.list ds) = true ∧ SeqAt.shaped d = true then some (.int ((ds.countP fun z => PyData.eqv z d : Nat) : Int)) else none
  | _, _ => none
def firstAt (ds : List PyData) (d : PyData) : Option Nat := ds.findIdx? fun z => PyData.eqv z d
def indexD : PyData → PyData → Option PyData
  | .list ds, d => if SeqAt.shaped (.list ds) = true ∧ SeqAt.shaped d = true then (firstAt ds d).map (fun (j : Nat) => PyData.int (j : Int)) else none
  | _, _ => none
def rCountD (K : PySem.W.Frag) : V → List V → Hp → VK → Prop := fun x xs H Q => ∃ (a : Addr) (y : V) (d : PyData) (ds : List PyData), x = .ref a ∧ xs = [y] ∧ Dp K H (.ref a) (.list ds) ∧ Dp K H y d ∧ SeqAt.shaped (.list ds) = true ∧ SeqAt.shaped d = true ∧ Q (.int ((ds.countP fun z => PyData.eqv z d : Nat) : Int)) H
theorem mt_countD (hu : X.A.units + 65 < cLine) : MtR X "list.count" (rCountD X.K) := by
  intro pins s σ H x xs v us Q I rx rxs h
  obtain ⟨a, y, d, ds, rfl, rfl, hl, hy, sl, sd, q⟩ := h
  cases rx
  obtain ⟨uy, rfl, ry⟩ := rxs.one
  obtain ⟨bs, r1⟩ := Dp.reads I d y uy hy ry
  have hroom : X.A.units + 1 + min (PyData.depthAll ds) d.depth < cLine := room_in_shaped sd hu
  cases hl with
  | lst hs ha =>
    obtain ⟨its, rv, ⟨⟨cls, dd, data, sls⟩, n, ho, hc, hdn, hdt⟩, hlen⟩ := I.list hs
    simp only at hc hdt
    subst hc hdt
    obtain ⟨as, h4⟩ := Dp.readsAll I ds _ its ha rv
    refine SeqAt.count_list_data (l := a) (vs := its.toArray) (xs := ds) (as := as) (bs := bs) ⟨_, ho, rfl, n, rfl⟩ (by simpa using h4) r1 (PyData.plainAll_of_canLay0 _ (SeqAt.canLay_of_shaped sl)) (PyData.plain_of_canLay0 _ (SeqAt.canLay_of_shaped sd)) hroom ?_
    exact ⟨.int _, H, I.tok _, ⟨s.toks, rfl⟩, q⟩
def wMeth (f : PyData → PyData → Option PyData) (wo we : WE) : WE := fun δ Q E => wo δ (fun x δ1 => (∃ ds, x = .list ds) ∧ we δ1 (fun y δ2 => ∃ z, f x y = some z ∧ Q z δ2) E) E
theorem wMeth_mono {f : PyData → PyData → Option PyData} (ho : MonoE wo) (he : MonoE we) : MonoE (wMeth f wo we) := fun δ Q Q' E E' hq hx h => ho _ _ _ _ _ (fun x δ1 ⟨h0, h1⟩ => ⟨h0, he _ _ _ _ _ (fun y δ2 ⟨z, h2, h3⟩ => ⟨z, h2, hq _ _ h3⟩) hx h1⟩) hx h
theorem de_meth {name : Str} {r : V → List V → Hp → VK → Prop} {f : PyData → PyData → Option PyData} (hp : PE X (.Call (.Attribute o name apos) [e] [] cpos) (tBM X.K "list" r (tD X.K W wo) (tCons (tD X.K W we) tNil)))
    (hd : ∀ G H a ds y d z Q, Same G H → Dq G (.ref a) (.list ds) → Dq G y d → f (.list ds) d = some z → Gives G H z Q → r (.ref a) [y] H Q) (mo : MonoE wo) (me : MonoE we) : DE X W (.Call (.Attribute o name apos) [e] [] cpos) (wMeth f wo we) := by
  refine ⟨pe_imp hp fun σ H Q hh => ?_, wMeth_mono mo me⟩
  obtain ⟨B, G, F, δ, R, h⟩ := hh
  refine ⟨B, G, F, δ, R, mo _ _ _ _ _ (fun x δ1 h1 => ?_) (fun _ _ z => z) h⟩
  intro G1 H1 v1 g1 R1 d1
  obtain ⟨⟨ds, rfl⟩, h1⟩ := h1
  have d0 := d1
  cases d1 with
  | lst hp1 ha1 =>
    refine ⟨.inl ⟨rfl, _, SqL.of (R1.g _ _ hp1)⟩, B, G1, F, δ1, R1, me _ _ _ _ _ (fun y δ2 h2 => ?_) (xL_up g1) h1⟩
    intro G2 H2 v2 g2 R2 d2
    obtain ⟨z, hz, hq⟩ := h2
    refine hd G2 H2 _ ds v2 y z _ R2.g (dp_same g2.g d0) d2 hz fun G3 H3 v w3 d3 => ?_
    exact hq G3 H3 v (g1.trans (g2.trans (w3.gr R2.f))) (R2.gw w3) d3
theorem de_count (hu : X.A.units + 65 < cLine) (ho : DE X W o wo) (he : DE X W e we) (hs : starEach [e] X.env = (false, eval e X.env) :: starEach [] X.env := by rfl) (hbase : attributeBase o "count" X.env (eval o X.env) = eval o X.env := by rfl)
    (hfew : ((backTo cpos (starEach [e] X.env)).all (fun x => !x.1) && (backToKw cpos (keywordEach [] X.env)).all (fun x => x.1.isSome) && decide ([e].length + ([] : List Keyword).length + (if ([] : List Keyword).isEmpty then 0 else 1) < 30)) = true := by rfl)
    (hline : (apos.endLine == cpos.line) = true := by rfl) : DE X W (.Call (.Attribute o "count" apos) [e] [] cpos) (wMeth countD wo we) := by
  refine de_meth (pe_bm PySem.F.plainAttrs_list PySem.F.slot_list_count PySem.F.type_list_count (mt_countD hu) ho.pe (pa_cons he.pe pa_nil hs) hbase hfew hline hs) (fun G H a ds y d z Q sm d1 d2 hz g => ?_) ho.mono he.mono
  simp only [countD] at hz
  split at hz
  · rename_i hsh
    cases hz
    exact ⟨a, y, d, ds, rfl, rfl, dp_of (dp_same sm d1), dp_of (dp_same sm d2), hsh.1, hsh.2, g G H _ (Gw.refl sm) (.int _)⟩
  · cases hz
theorem de_index (hu : X.A.units + 65 < cLine) (ho : DE X W o wo) (he : DE X W e we) (hs : starEach [e] X.env = (false, eval e X.env) :: starEach [] X.env := by rfl) (hbase : attributeBase o "index" X.env (eval o X.env) = eval o X.env := by rfl)
    (hfew : ((backTo cpos (starEach [e] X.env)).all (fun x => !x.1) && (backToKw cpos (keywordEach [] X.env)).all (fun x => x.1.isSome) && decide ([e].length + ([] : List Keyword).length + (if ([] : List Keyword).isEmpty then 0 else 1) < 30)) = true := by rfl)
    (hline : (apos.endLine == cpos.line) = true := by rfl) : DE X W (.Call (.Attribute o "index" apos) [e] [] cpos) (wMeth indexD wo we) := by
  refine de_meth (pe_bm PySem.F.plainAttrs_list PySem.F.slot_list_index PySem.F.type_list_index (mt_indexD hu) ho.pe (pa_cons he.pe pa_nil hs) hbase hfew hline hs) (fun G H a ds y d z Q sm d1 d2 hz g => ?_) ho.mono he.mono
  simp only [indexD] at hz
  split at hz
  · rename_i hsh
    simp only [Option.map_eq_some_iff] at hz
    obtain ⟨j, hj, rfl⟩ := hz
    unfold firstAt at hj
    rw [List.findIdx?_eq_some_iff_getElem] at hj
    obtain ⟨hl, h1, h2⟩ := hj
    refine ⟨a, y, d, ds, j, ds[j], rfl, rfl, dp_of (dp_same sm d1), dp_of (dp_same sm d2), hsh.1, hsh.2, List.getElem?_eq_getElem hl, h1, fun m z' hm hz' => ?_, g G H _ (Gw.refl sm) (.int _)⟩
    obtain ⟨h3, rfl⟩ := List.getElem?_eq_some_iff.mp hz'
    have := h2 m hm
    simpa using this
  · cases hz
theorem dt_neU (hu : X.A.units + 64 < cLine) {a b : Expr} {wa wb : WE} {pos : Pos} (ha : DE X W a wa) (hb : DE X W b wb) : DT X W (.Compare a [.NotEq] [b] pos) (wB (wOp neD wa wb)) := dt_cmpR (op_ne.or (op_neD hu)) opD_ne ha hb (nomark _)
end
/-! ### what `_law_which` tells, and the try around a call -/
def told (k : Int) : PyData := .tuple [.str "raised", .int k]
def spW (kind : Addr → Int → Prop) (p : Addr × Obj) : Sp := fun vs H Q _ => ∃ D k, p.2.cls = .ref D ∧ p.2.dict = none ∧ kind D k ∧ vs = [.ref p.1] ∧ ∃ G, Same G H ∧ Gives G H (told k) Q
/-- the def that tells which exception it was -/
structure FnW (P : Program) (w : World) (K : PySem.W.Frag) (mg : Str → Option Value) (base : Heap) (x : Str) (k : Nat) (kind : Addr → Int → Prop) : Prop where
  ex : ∃ f fd, HotRun P w K mg base k f fd ["e"] (spW kind) ∧ mg x = some (.ref f) ∧ PySem.W.keepIn K (.ref f) = true ∧ Binds K fd ["e"] []
section
variable {X : Cx} {W : WX} {body : List Stmt} {wb : WS} {n x y : Str} {np p1 p2 p3 p4 p5 p6 : Pos} {i k : Nat} {kind : Addr → Int → Prop} {C : Addr}
def exT (i : Nat) (kind : Addr → Int → Prop) (D : WEnds) : WEnds := { D with ex := fun c δ' => i < δ'.length ∧ ∃ D' k, c = .ref D' ∧ kind D' k ∧ D.rt (told k) δ' }
def wTry (i : Nat) (kind : Addr → Int → Prop) (b : WS) : WS := fun δ D => b δ (exT i kind D)
theorem wTry_mono (h : MonoS wb) : MonoS (wTry i kind wb) := fun δ D D' l z => h δ (exT i kind D) (exT i kind D') ⟨l.nx, l.rt, l.bk, l.ct, fun c δ' ⟨h0, D1, k, h1, h2, h3⟩ => ⟨h0, D1, k, h1, h2, l.rt _ _ h3⟩⟩ z
theorem ds_try (hs : X.stack = X.env :: X.outer) (hf : X.env.frame = some X.env.locals) (hN : X.N.Nodup) (hi : X.N[i]? = some n) (hln : X.env.kindOf n = some .local) (hC : X.mg x = some (.ref C)) (tk : L2N.Takes X W) (hr : Room k X.A) (Wf : FnW X.prog X.w X.K X.mg X.base y k kind)
    (hk : ∀ D j, kind D j → PySem.W.exmOne X.K (.ref D) (.ref C) = some true)
    (hb : ∀ (W' : WX) (pn : List (Addr × Obj)) (xe : Value → Shared → Prop), L2N.Takes (X.tr pn xe) W' → DSs (X.tr pn xe) W' body wb)
    (hn : ∀ Y : Cx, Y.N = X.N → Y.env = X.env → PE Y (.Name n p2) (tVar i))
    (hs1 : starEach [.Name n p2] X.env = (false, eval (.Name n p2) X.env) :: starEach [] X.env := by rfl) (hgx : Gl X x := by rfl) (hgy : Gl X y := by rfl) (hdx : (x == ("__debug__" : Str)) = false := by decide) (hdy : (y == ("__debug__" : Str)) = false := by decide) :
    DSt X W (.Try body [.ExceptHandler (some (.Name x np)) (some n) [.Return (some (.Call (.Name y p1) [.Name n p2] [] p3)) p4] p5] [] [] p6) (wTry i kind wb) := by
  obtain ⟨f, fd, F, hm, hkp, hbd⟩ := Wf.ex
  have mb : MonoS wb := (hb W0 [] (fun _ _ => True) fun _ _ _ => trivial).mono
  have suite : ∀ (a : Addr) (oe : Obj) (cls : Value) (d : Option Addr) (pn : List (Addr × Obj)), L2N.Zn cls d oe → (∃ vs, oe.data = .fields vs) → PSs (X.suite a ((a, oe) :: pn)) [.Return (some (.Call (.Name y p1) [.Name n p2] [] p3)) p4]
      (fun D σ H => d = none ∧ σ[i]? = some (some (.ref a)) ∧ ∃ D' j, cls = .ref D' ∧ kind D' j ∧ ∃ G, Same G H ∧ Gives G H (told j) D.rt) := fun a oe cls d pn hz hv => by
    have hot : L2H.Hot1 (X.suite a ((a, oe) :: pn)).A (a, oe) := by
      obtain ⟨vs, e⟩ := hv
      exact ⟨rfl, vs, e, hz.2.2 vs e⟩
    have call := pe_hot (X := X.suite a ((a, oe) :: pn)) (p := (a, oe)) (q := p1) (pos := p3) F (fun vs H Q E z => by obtain ⟨_, _, _, _, _, rfl, _⟩ := z; rfl) ⟨hr.dp, hr.un⟩ hot List.mem_cons_self hgy hm hkp hbd (pa_cons (hn _ rfl rfl) pa_nil hs1) hdy hs1
    refine pss_imp (pss_cons (ps_ret call) pss_nil) fun D σ H z => ?_
    obtain ⟨hd, hv1, D', j, rfl, hkd, hg⟩ := z
    exact ⟨_, hv1, D', j, hz.1, hz.2.1.trans hd, hkd, rfl, hg⟩
  refine ⟨ps_imp (L2N.ps_try_as (i := i) (tb := fun W' => tDS X.K W' wb) hs hf hN hi hln ⟨hgx, hdx, .inl hC⟩ tk (fun W' pn xe tk' _ => (hb W' pn xe tk').ps) suite) fun D σ H hh => ?_, wTry_mono mb⟩
  obtain ⟨B, G, F1, δ, R, h⟩ := hh
  refine ⟨B, G, F1, δ, R, mb δ (exT i kind (dEnds X.K W B F1 G D)) _ ⟨fun _ z => z, fun _ _ z => z, fun _ z => z, fun _ z => z, fun c δ' z => ?_⟩ h⟩
  obtain ⟨hlt, D', j, rfl, hkd, z⟩ := z
  intro G' σ' H' g' R'
  refine ⟨true, hk _ _ hkd, fun _ a ha => ?_, fun e => nomatch e⟩
  have hil : i < σ'.length := by
    rw [← R'.len]
    exact hlt
  exact ⟨rfl, List.getElem?_set_self hil, D', j, rfl, hkd, G', R'.g, fun G2 H2 v w2 d2 => z G2 σ' H2 v (g'.trans (w2.gr R'.f)) (R'.gw w2) d2⟩
end
end RD

/-! The data layer, part k: a call of a def out of a written list, the def that tells which exception it was. -/
namespace RD
open PySem PySem.Spec PyProof.Rows L2
section
variable {X : Cx} {W : WX} {a b e fe : Expr} {es ns : List Expr} {pos p1 p2 : Pos} {wb : WE} {wr : WA} {k : Nat}
/-- a written list of defs -/
structure Held (P : Program) (w : World) (K : PySem.W.Frag) (mg : Str → Option Value) (base : Heap) (k : Nat) (f : Addr) (T : PT) : Prop where
  ex : ∃ fd ps k', k' ≤ k ∧ FnOk P w K mg base (L2N.CX P w) k' f fd ps (spD T) ∧ PySem.W.keepIn K (.ref f) = true ∧ Binds K fd ps []
  mono : MonoP T
structure Tab (X : Cx) (k : Nat) (ns : List Expr) (fs : List Addr) (Ts : List PT) : Prop where
  pa : ∃ t, PA X ns t ∧ ∀ σ H Q, Q (fs.map V.ref) H → t σ H Q
  at' : ∀ (j : Nat) f, fs[j]? = some f → ∃ T, Ts[j]? = some T ∧ Held X.prog X.w X.K X.mg X.base k f T
  at2 : ∀ (j : Nat) T, Ts[j]? = some T → ∃ f, fs[j]? = some f
  len : fs.length ≤ 100
theorem tab_nil : Tab X k [] [] [] := ⟨⟨_, pa_nil, fun _ _ _ q => q⟩, (fun _ _ e => nomatch e), (fun _ _ e => nomatch e), by simp⟩
theorem tab_cons {x : Str} {ps : List Str} {k' : Nat} {T : PT} {fs : List Addr} {Ts : List PT} (C : Fn X.prog X.w X.K X.mg X.base x ps k' T) (hk : k' ≤ k) (h : Tab X k ns fs Ts) (hl : fs.length < 100 := by simp) (hg : Gl X x := by rfl) (hd : (x == ("__debug__" : Str)) = false := by decide)
    (hs : starEach (.Name x p1 :: ns) X.env = (false, eval (.Name x p1) X.env) :: starEach ns X.env := by rfl) : ∃ f, Tab X k (.Name x p1 :: ns) (f :: fs) (T :: Ts) := by
  obtain ⟨f, fd, F, hm, hkp, hb⟩ := C.ex
  obtain ⟨⟨t, h1, h2⟩, h3, h4, h5⟩ := h
  refine ⟨f, ⟨_, pa_cons (pe_glob (v := .ref f) hg hm rfl hd) h1 hs, fun σ H Q q => h2 σ H _ q⟩, fun j g e => ?_, fun j T' e => ?_, by simp; omega⟩
  · cases j with
    | zero =>
      cases e
      exact ⟨T, rfl, ⟨fd, ps, k', hk, F, hkp, hb⟩, C.mono⟩
    | succ j => exact h3 j g e
  · cases j with
    | zero => exact ⟨f, rfl⟩
    | succ j => exact h4 j T' e
def wTab (Ts : List PT) (wi : WE) (wr : WA) : WE := fun δ Q E => wi δ (fun y δ1 => ∃ (j : Nat) (T : PT), y = .int (j : Nat) ∧ Ts[j]? = some T ∧ wr δ1 (fun ds δ2 => T ds (fun d => Q d δ2) (fun c => E c δ2)) E) E
theorem wTab_mono {Ts : List PT} (hT : ∀ (j : Nat) T, Ts[j]? = some T → MonoP T) (hi : MonoE wb) (hr : MonoE wr) : MonoE (wTab Ts wb wr) := fun δ Q Q' E E' hq he h =>
  hi _ _ _ _ _ (fun y δ1 ⟨j, T, h1, h2, h3⟩ => ⟨j, T, h1, h2, hr _ _ _ _ _ (fun ds δ2 z => hT j T h2 _ _ _ _ _ (fun d => hq d δ2) (fun c => he c δ2) z) he h3⟩) he h
/-- [f, g, ..][i](e, ..) -/
theorem de_tab {fs : List Addr} {Ts : List PT} (hT : Tab X k ns fs Ts) (tk : L2N.Takes X W) (hr : Room k X.A) (hi : DE X W b wb) (ha : DA X W (e :: es) wr) (hs : PlainIx b := by intro _ _; rfl)
    (hsa : starEach (e :: es) X.env = (false, eval e X.env) :: starEach es X.env := by rfl) (hp : (backTo pos (starEach es X.env)).any (·.1) = false := by rfl) :
    DE X W (.Call (.Subscript (.List ns p1) b p2) (e :: es) [] pos) (wTab Ts wb wr) := by
  obtain ⟨⟨t, h1, h2⟩, h3, h4, h5⟩ := hT
  have hm : ∀ (j : Nat) T, Ts[j]? = some T → MonoP T := fun j T e => by
    obtain ⟨f, ef⟩ := h4 j T e
    obtain ⟨T', e', h⟩ := h3 j f ef
    cases e'.symm.trans e
    exact h.mono
  refine ⟨⟨fun pins s σ H Q I hh => ?_⟩, wTab_mono hm hi.mono ha.mono⟩
  show wpAny _ _ (do callWith pos (← eval (.Subscript (.List ns p1) b p2) X.env) [] (backTo pos (starEach (e :: es) X.env)) (backToKw pos (keywordEach [] X.env))) _ _ _
  obtain ⟨B, G, F, δ, R, h⟩ := hh
  have pf : PE X (.Subscript (.List ns p1) b p2) (tOp (rIxL X.K) (tLst t) (tD X.K W wb)) := pe_ix ix_list (pe_lst h1) hi.pe hs
  refine wpAny_bind (thn (pf.run pins s σ H (fun v H2 => ∃ (j : Nat) (f : Addr) (T : PT) (G2 : Hp) (δ2 : DS), v = .ref f ∧ fs[j]? = some f ∧ Ts[j]? = some T ∧ Gr F G G2 ∧ Rel X.K B G2 F δ2 σ H2 ∧
      wr δ2 (fun ds δ3 => T ds (fun d => ∀ G' H' v, Gr F G G' → Rel X.K B G' F δ3 σ H' → Dq G' v d → Q v H') (fun c => xL X.K W B F G σ c δ3)) (xL X.K W B F G σ)) I ?_) fun u s1 got => ?_)
  · refine h2 σ H _ ⟨by simp only [List.length_map]; exact le_line (by omega), fun p hp => ?_⟩
    have w0 := Gw.new (o := .lst (fs.map V.ref)) R.g hp
    have g0 := w0.gr R.f
    refine ⟨B, _, F, δ, R.gw w0, hi.mono _ _ _ _ _ (fun y δ1 hy => ?_) (xL_up g0) h⟩
    intro G1 H1 v1 g1 R1 d1
    obtain ⟨j, T, rfl, eT, hw⟩ := hy
    cases d1
    obtain ⟨f, ef⟩ := h4 j T eT
    have hl : H1 p = some (.lst (fs.map V.ref)) := R1.g _ _ (g1.g _ _ upd_same)
    refine ⟨p, _, _, .ref f, rfl, rfl, SqL.of hl, ?_, j, f, T, G1, δ1, rfl, ef, eT, g0.trans g1, R1, hw⟩
    exact atI_nat (by simp [ef])
  · obtain ⟨v, H1, I1, rv, j, f, T, G2, δ2, rfl, ef, eT, g2, R2, hw⟩ := got
    cases rv
    obtain ⟨T', e', hd⟩ := h3 j f ef
    cases e'.symm.trans eT
    obtain ⟨fd, ps, k', hk, Ff, hkp, hb⟩ := hd.ex
    have R2' : tDA X.K W wr σ H1 (fun vs H2 => spD T vs H2 Q (L2.WE W σ)) := by
      refine ⟨B, G2, F, δ2, R2, ha.mono _ _ _ _ _ (fun ds δ3 z => ?_) (xL_up g2) hw⟩
      intro G3 H3 vs g3 R3 d3
      refine ⟨G3, ds, R3.g, d3, hd.mono _ _ _ _ _ (fun d q => ?_) (fun cc q => ?_) z⟩
      · intro G4 H4 v w4 d4
        exact q G4 H4 v (g2.trans (g3.trans (w4.gr R3.f))) (R3.gw w4) d4
      · intro H4 s4
        exact q G3 H4 (g2.trans g3) (R3.heap s4)
    refine PySem.W.callWith_K (h₀ := X.base) I.ok.mod.kin hkp (thn (ha.pa.run pos pins s1 σ H1 _ I1 R2') fun us s2 got => ?_) hsa hp
    obtain ⟨vs, H2, I2, r2, want⟩ := got
    exact ⟨I2.kIn, run_fnS Ff (hr.mono hk) hb (L2N.passAt tk σ) I2 r2 want⟩
def TabE (X : Cx) (k : Nat) (ns : List Expr) (Ts : List PT) : Prop := ∃ fs, Tab X k ns fs Ts ∧ fs.length = Ts.length
theorem tabE_nil : TabE X k [] [] := ⟨[], tab_nil, rfl⟩
theorem tabE_cons {x : Str} {ps : List Str} {k' : Nat} {T : PT} {Ts : List PT} (C : Fn X.prog X.w X.K X.mg X.base x ps k' T) (hk : k' ≤ k) (h : TabE X k ns Ts) (hl : Ts.length < 100 := by simp) (hg : Gl X x := by rfl) (hd : (x == ("__debug__" : Str)) = false := by decide)
    (hs : starEach (.Name x p1 :: ns) X.env = (false, eval (.Name x p1) X.env) :: starEach ns X.env := by rfl) : TabE X k (.Name x p1 :: ns) (T :: Ts) := by
  obtain ⟨fs, h1, h2⟩ := h
  obtain ⟨f, h3⟩ := tab_cons (p1 := p1) C hk h1 (by omega) hg hd hs
  exact ⟨f :: fs, h3, by simp [h2]⟩
theorem de_tab_of {Ts : List PT} (hT : TabE X k ns Ts) (tk : L2N.Takes X W) (hr : Room k X.A) (hi : DE X W b wb) (ha : DA X W (e :: es) wr) (hs : PlainIx b := by intro _ _; rfl)
    (hsa : starEach (e :: es) X.env = (false, eval e X.env) :: starEach es X.env := by rfl) (hp : (backTo pos (starEach es X.env)).any (·.1) = false := by rfl) :
    DE X W (.Call (.Subscript (.List ns p1) b p2) (e :: es) [] pos) (wTab Ts wb wr) := by
  obtain ⟨fs, h1, _⟩ := hT
  exact de_tab h1 tk hr hi ha hs hsa hp
end
/-! ### the def that tells which exception it was -/
section
variable {P : Program} {w : World} {K : PySem.W.Frag} {mg : Str → Option Value} {base : Heap}
theorem raw_rel {G H : Hp} {N : List Str} {a : Addr} {n : Nat} (s : Same G H) (hN : N.length = n + 1) : Rel K (fun _ => none) G H (SD.raw (.ref a) :: List.replicate n SD.no) (start N [.ref a]) H := by
  refine ⟨(fun a o e => nomatch e), s, Same.refl H, ?_, fun i u e => ?_, fun i j k l p _ e => ?_⟩
  · unfold L2.start
    simp
    omega
  · cases i with
    | zero =>
      cases e
      rfl
    | succ i =>
      rw [List.getElem?_cons_succ, List.getElem?_replicate] at e
      split at e
      · cases e
        trivial
      · cases e
  · exfalso
    cases i with
    | zero => cases e
    | succ i =>
      rw [List.getElem?_cons_succ, List.getElem?_replicate] at e
      split at e <;> cases e
theorem okW {x qual : Str} {st : Stmt} {f : Addr} {fd : FuncData} {N : List Str} {k n : Nat} {kind : Addr → Int → Prop} (F : Fun K x qual st f fd) (S : FnScope N ["e"] (defScope st)) (hN : N.length = n + 1)
    (hb : ∀ (cdv : Value) (A : Around) (outer : List Env) (s : Shared) (H : Hp) (E : XK) (p : Addr × Obj) (D : Addr) (j : Int), kind D j → p.2.cls = .ref D → p.2.dict = none → (∃ vs, p.2.data = .fields vs) → L2H.RoomH k (A.deeper (envOfC qual (defScope st) s.heap.objs.size f cdv)) →
      ∃ b, DSs (L2H.cxH (L2N.CX P w) P w K mg base N qual (defScope st) f cdv A outer s H E p) W0 (defBody st) b ∧ b (SD.raw (.ref p.1) :: List.replicate n SD.no) (fnEnds (fun d => d = told j) (fun _ => False))) :
    HotRun P w K mg base (k + 1) f fd ["e"] (spW kind) := by
  obtain ⟨oc, od, kV, doc, pm, an, cdv, ct, osl, rfl, lk, hcd⟩ := F.ex
  refine hotRun_of lk hcd S (fun p vs H Q E h => ?_) fun A outer s H vs Q E p hot hr hsp => ?_
  · obtain ⟨_, _, _, _, _, rfl, _⟩ := h
    rfl
  · obtain ⟨D, j, hc, hd, hk, rfl, G, sm, g⟩ := hsp
    obtain ⟨_, vs, hv, _⟩ := hot
    obtain ⟨b, h1, h2⟩ := hb cdv A outer s H E p D j hk hc hd ⟨vs, hv⟩ hr
    refine ⟨_, h1.ps, fun _ => none, G, H, _, raw_rel sm hN, h1.mono _ _ _ ⟨fun δ z => ?_, fun v δ z => ?_, fun _ z => False.elim z, fun _ z => False.elim z, fun cc δ z => False.elim z⟩ h2⟩
    · exact nomatch z
    · intro G' σ' H' u g' R du
      cases z
      exact g G' H' u ⟨R.f, g'.g, R.g, g'.n⟩ du
end
/-- its body's data reading, by the nine answers of isinstance -/
def wWhich (a : Addr) (b0 b1 b2 b3 b4 b5 b6 b7 b8 : Bool) : WS :=
  wSeq (wSetN 1 (wLstN (wCons (wIsE 0 a b0) (wCons (wIsE 0 a b1) (wCons (wIsE 0 a b2) wNil)))))
    (wSeq (wExt 1 (wFz (wLstN (wCons (wIsE 0 a b3) (wCons (wIsE 0 a b4) (wCons (wIsE 0 a b5) wNil))))))
    (wSeq (wExt 1 (wFz (wLstN (wCons (wIsE 0 a b6) (wCons (wIsE 0 a b7) wNil)))))
    (wSeq (wIfS (wOr (wPeekT (wB (wOp neD (wMeth countD (wVar 1) (wC (.bool true))) (wC (.int 1))))) (wNot (wB (wIsE 0 a b8)))) (wRet (wTup (wCons (wC (.str "raised")) (wCons (wUn negD (wC (.int 1))) wNil)))) wNext)
    (wRet (wTup (wCons (wC (.str "raised")) (wCons (wPeek (wMeth indexD (wVar 1) (wC (.bool true)))) wNil)))))))
theorem which_is {a : Addr} {b0 b1 b2 b3 b4 b5 b6 b7 : Bool} {j : Nat} (h1 : countD (.list ([b0, b1, b2, b3, b4, b5, b6, b7].map PyData.bool)) (.bool true) = some (.int 1)) (h2 : indexD (.list ([b0, b1, b2, b3, b4, b5, b6, b7].map PyData.bool)) (.bool true) = some (.int j)) :
    wWhich a b0 b1 b2 b3 b4 b5 b6 b7 true [.raw (.ref a), .no] (fnEnds (fun d => d = told j) (fun _ => False)) := by
  have l3 : 3 ≤ sizeLine := by decide
  have l2 : 2 ≤ sizeLine := by decide
  refine ⟨rfl, rfl, rfl, l3, ⟨_, rfl⟩, rfl, rfl, rfl, l3, _, rfl, _, _, rfl, rfl, (by show 6 ≤ sizeLine; decide), ⟨_, rfl⟩, rfl, rfl, l2, _, rfl, _, _, rfl, rfl, (by show 8 ≤ sizeLine; decide), ?_⟩
  refine ⟨⟨_, rfl⟩, _, h1, _, rfl, _, rfl, iteF ⟨rfl, _, rfl, iteF ?_⟩⟩
  exact ⟨⟨_, rfl⟩, _, h2, rfl, l2, rfl⟩
theorem which0 {a : Addr} : wWhich a true false false false false false false false true [.raw (.ref a), .no] (fnEnds (fun d => d = told 0) (fun _ => False)) := which_is (j := 0) rfl rfl
theorem which1 {a : Addr} : wWhich a false true false false false false false false true [.raw (.ref a), .no] (fnEnds (fun d => d = told 1) (fun _ => False)) := which_is (j := 1) rfl rfl
theorem which2 {a : Addr} : wWhich a false false true false false false false false true [.raw (.ref a), .no] (fnEnds (fun d => d = told 2) (fun _ => False)) := which_is (j := 2) rfl rfl
theorem which3 {a : Addr} : wWhich a false false false true false false false false true [.raw (.ref a), .no] (fnEnds (fun d => d = told 3) (fun _ => False)) := which_is (j := 3) rfl rfl
theorem which4 {a : Addr} : wWhich a false false false false true false false false true [.raw (.ref a), .no] (fnEnds (fun d => d = told 4) (fun _ => False)) := which_is (j := 4) rfl rfl
theorem which5 {a : Addr} : wWhich a false false false false false true false false true [.raw (.ref a), .no] (fnEnds (fun d => d = told 5) (fun _ => False)) := which_is (j := 5) rfl rfl
theorem which6 {a : Addr} : wWhich a false false false false false false true false true [.raw (.ref a), .no] (fnEnds (fun d => d = told 6) (fun _ => False)) := which_is (j := 6) rfl rfl
theorem which7 {a : Addr} : wWhich a false false false false false false false true true [.raw (.ref a), .no] (fnEnds (fun d => d = told 7) (fun _ => False)) := which_is (j := 7) rfl rfl
end RD

/-! The data layer, part l: sorted. -/
namespace RD
open PySem PySem.Spec PyProof.Rows L2
section
variable {X : Cx} {W : WX} {a b c e : Expr} {es : List Expr} {pos p : Pos} {wa wb wc we : WE} {wr : WA} {st : Stmt}
def sortKind (ds : List PyData) : Bool := (ds.all fun d => match d with | .tuple (_ :: _) => true | _ => false) || ds.all fun d => match d with | .none => false | .tuple _ => false | _ => true
theorem sortKind_of {ds : List PyData} (h : sortKind ds = true) : PySem.W.Sortable ds := by
  unfold sortKind at h
  rw [Bool.or_eq_true, List.all_eq_true, List.all_eq_true] at h
  rcases h with h | h
  · refine .inl fun d hd => ?_
    have := h d hd
    split at this
    · exact ⟨_, _, rfl⟩
    · cases this
  · refine .inr fun d hd => ?_
    have := h d hd
    split at this
    · cases this
    · cases this
    · rename_i h1 h2
      exact ⟨h1, h2⟩
abbrev leData : PyData → PyData → Bool := PySem.W.dataLe false (fun d : PyData => d)
def sortF : List PyData → Option PyData
  | [.list ds] => if allAlike ds = true ∧ sortKind ds = true ∧ ds.length ≤ sizeLine then some (.list (ds.mergeSort leData)) else none
  | _ => none
theorem each_zip {G : Hp} : ∀ {us : List Value} {vs : List V} {ds : List PyData}, Vals vs us → DqAll G vs ds → ∃ bs : List (V × PyData), PySem.W.EachIs (fun u b => RelV b.1 u ∧ Dq G b.1 b.2) us bs ∧ bs.map (·.2) = ds
  | _, _, _, r, .nil => by
    cases r
    exact ⟨[], .nil, rfl⟩
  | _, _, _, r, .cons d1 dr => by
    cases r with
    | cons r1 rr =>
      obtain ⟨bs, h1, h2⟩ := each_zip rr dr
      exact ⟨(_, _) :: bs, .cons ⟨r1, d1⟩ h1, by simp [h2]⟩
theorem each_back {G : Hp} : ∀ {us : List Value} {bs : List (V × PyData)}, PySem.W.EachIs (fun u b => RelV b.1 u ∧ Dq G b.1 b.2) us bs → Vals (bs.map (·.1)) us ∧ DqAll G (bs.map (·.1)) (bs.map (·.2))
  | _, _, .nil => ⟨.nil, .nil⟩
  | _, _, .cons h t => ⟨.cons h.1 (each_back t).1, .cons h.2 (each_back t).2⟩
theorem depth_mem {d : PyData} : ∀ {ds : List PyData}, d ∈ ds → d.depth ≤ PyData.depthAll ds
  | x :: xs, h => by
    simp only [PyData.depthAll]
    rcases List.mem_cons.mp h with rfl | h
    · omega
    · have := depth_mem h
      omega
theorem each_reads {pins : List (Addr × Obj)} {σ : L2.St} {G H : Hp} {s : Shared} (I : Inv X pins σ H s) (sm : Same G H) : ∀ {us : List Value} {bs : List (V × PyData)}, PySem.W.EachIs (fun u b => RelV b.1 u ∧ Dq G b.1 b.2) us bs → PySem.W.EachIs (fun v b => ∃ as, Reads s.heap v b.2 as) us bs
  | _, _, .nil => .nil
  | _, _, .cons h t => .cons (Dp.reads I _ _ _ (dp_of (dp_same sm h.2)) h.1) (each_reads I sm t)
theorem cr_sortData {k : Nat} (hr : Room k X.A) : CallR X (.builtin "sorted") (rDat sortF) := by
  intro pins s σ H xs us Q I r h
  obtain ⟨G, ds, d, sm, hd, hf, hg⟩ := h
  match ds, hf with
  | [.list ds], hf =>
    obtain ⟨v, rfl, d1⟩ := dqAll1 hd
    simp only [sortF] at hf
    split at hf
    · rename_i hc
      cases hf
      obtain ⟨⟨hal, _⟩, hdp⟩ := allAlike_of hc.1
      cases d1 with
      | lst h1 h2 =>
        obtain ⟨u, rfl, ru⟩ := vals1 r
        cases ru
        obtain ⟨its, rv, pl, hz⟩ := I.list (SqL.of (sm _ _ h1))
        obtain ⟨bs, hb1, rfl⟩ := each_zip rv h2
        refine PySem.W.sorted_data (enc := fun b : V × PyData => b.2) pl.isList hb1 (each_reads I sm hb1) (fun x hx y hy => hal x hx y hy) (sortKind_of hc.2.1) (by simpa using hc.2.2) (fun b hb => ?_) fun out ho he => ?_
        · have := depth_mem (List.mem_map_of_mem (f := fun b : V × PyData => b.2) hb)
          have := hr.un
          show X.A.units + 2 + b.2.depth < cLine
          omega
        · obtain ⟨hv, hq⟩ := each_back he
          obtain ⟨ep, hat⟩ := sortedAll_at s.heap its out.toArray
          have hfr : H (s.heap.objs.size + 1) = none := I.hok.fresh (Nat.le_succ _)
          have hlen : ((bs.mergeSort (PySem.W.dataLe false fun b : V × PyData => b.2)).map (·.1)).length ≤ sizeLine := by
            simpa using hc.2.2
          refine ⟨.ref _, upd H (s.heap.objs.size + 1) (.lst _), I.laid (t' := s.toks) (fun _ _ => sortedAll_old) (Nat.le_succ _) ⟨hlen, out, ep, hv, by simpa using hat⟩, rfl, ?_⟩
          refine gives_new sm hg _ hfr (.lst upd_same ?_)
          have e : (bs.map (·.2)).mergeSort leData = (bs.mergeSort (PySem.W.dataLe false fun b : V × PyData => b.2)).map (·.2) := (List.map_mergeSort (r := PySem.W.dataLe false fun b : V × PyData => b.2) (s := leData) (f := fun b : V × PyData => b.2) fun _ _ _ _ => rfl).symm
          rw [e]
          exact dpAll_same (same_new (sm.free hfr)) hq
    · cases hf
theorem de_sorted {k : Nat} (hr : Room k X.A) (hm : X.mg "sorted" = none) (ha : DA X W [e] wr) (hg : Gl X "sorted" := by rfl) (hs : starEach [e] X.env = (false, eval e X.env) :: starEach [] X.env := by rfl) : DE X W (.Call (.Name "sorted" p) [e] [] pos) (wCallF sortF wr) :=
  de_callB (cr_sortData hr) (callD_dat sortF) hg hm (by decide +kernel) ha (by decide) (by decide) hs rfl
/-- a target of names that are cells -/
def wAsgT (set : PyData → DS → Option DS) (w : WE) : WS := fun δ D => w δ (fun x δ' => ∃ δ2, set x δ' = some δ2 ∧ D.nx δ2) D.ex
theorem wAsgT_mono {set : PyData → DS → Option DS} (h : MonoE we) : MonoS (wAsgT set we) := fun δ D D' l hh => h _ _ _ _ _ (fun x δ' ⟨δ2, z1, z2⟩ => ⟨δ2, z1, l.nx _ z2⟩) l.ex hh
theorem ds_asgT {g : TG} {is : List Nat} {set : PyData → DS → Option DS} (he : DE X W e we) (p1 : PS X st (tAsg (tD X.K W we) g)) (ht : TgtOk X.K g is set) : DSt X W st (wAsgT set we) := by
  refine ⟨ps_imp p1 fun D σ H hh => ?_, wAsgT_mono he.mono⟩
  obtain ⟨B, G, F, δ, R, hh⟩ := hh
  refine ⟨B, G, F, δ, R, he.mono _ _ _ _ _ (fun x δ1 h1 => ?_) xL_of hh⟩
  intro G1 H1 v g1 R1 d1
  obtain ⟨δ2, e2, h2⟩ := h1
  exact ht.run B G1 F δ1 σ H1 v x δ2 _ R1 d1 e2 fun σ' R2 _ => h2 G1 σ' H1 g1 R2
/-! ### statements, by their whole text -/
theorem st_append {i : Nat} {o : Expr} {apos cpos : Pos} (v : DE X W e we) (ho : PE X o (tVar i)) (hbase : attributeBase o "append" X.env (eval o X.env) = eval o X.env := by rfl)
    (hfew : ((backTo cpos (starEach [e] X.env)).all (fun x => !x.1) && (backToKw cpos (keywordEach [] X.env)).all (fun x => x.1.isSome) && decide ([e].length + ([] : List Keyword).length + (if ([] : List Keyword).isEmpty then 0 else 1) < 30)) = true := by rfl)
    (hline : (apos.endLine == cpos.line) = true := by rfl) (hs : starEach [e] X.env = (false, eval e X.env) :: starEach [] X.env := by rfl) :
    DSt X W (.Expr (.Call (.Attribute o "append" apos) [e] [] cpos) pos) (wApp i we) := ds_append v (ps_expr (pe_bm PySem.F.plainAttrs_list PySem.F.slot_list_append PySem.F.type_list_append mt_append ho (pa_cons v.pe pa_nil hs) hbase hfew hline hs))
theorem st_appendT {i : Nat} {o : Expr} {apos cpos : Pos} (v : DE X W e we) (ho : PE X o (tVar i)) (hbase : attributeBase o "append" X.env (eval o X.env) = eval o X.env := by rfl)
    (hfew : ((backTo cpos (starEach [e] X.env)).all (fun x => !x.1) && (backToKw cpos (keywordEach [] X.env)).all (fun x => x.1.isSome) && decide ([e].length + ([] : List Keyword).length + (if ([] : List Keyword).isEmpty then 0 else 1) < 30)) = true := by rfl)
    (hline : (apos.endLine == cpos.line) = true := by rfl) (hs : starEach [e] X.env = (false, eval e X.env) :: starEach [] X.env := by rfl) :
    DSt X W (.Expr (.Call (.Attribute o "append" apos) [e] [] cpos) pos) (wAppT i we) := ds_appendT v (ps_expr (pe_bm PySem.F.plainAttrs_list PySem.F.slot_list_append PySem.F.type_list_append mt_append ho (pa_cons v.pe pa_nil hs) hbase hfew hline hs))
theorem st_extend {i : Nat} {o : Expr} {apos cpos : Pos} (v : DE X W e we) (ho : PE X o (tVar i)) (hbase : attributeBase o "extend" X.env (eval o X.env) = eval o X.env := by rfl)
    (hfew : ((backTo cpos (starEach [e] X.env)).all (fun x => !x.1) && (backToKw cpos (keywordEach [] X.env)).all (fun x => x.1.isSome) && decide ([e].length + ([] : List Keyword).length + (if ([] : List Keyword).isEmpty then 0 else 1) < 30)) = true := by rfl)
    (hline : (apos.endLine == cpos.line) = true := by rfl) (hs : starEach [e] X.env = (false, eval e X.env) :: starEach [] X.env := by rfl) :
    DSt X W (.Expr (.Call (.Attribute o "extend" apos) [e] [] cpos) pos) (wExt i we) := ds_extend v (ps_expr (pe_bm PySem.F.plainAttrs_list PySem.F.slot_list_extend PySem.F.type_list_extend mt_extend ho (pa_cons v.pe pa_nil hs) hbase hfew hline hs))
theorem st_par {i j : Nat} {x y : Str} {px py pt : Pos} {kt k2 pt2} (hc : X.calm = true) (hN : X.N.Nodup) (hi : X.N[i]? = some x) (hj : X.N[j]? = some y) (hij : i ≠ j) (hx : X.env.scope.names.lookup x = some .local) (hy : X.env.scope.names.lookup y = some .local) (ha : DA X W [a, b] wr)
    (hw : swappedStores [.Tuple [.Name x px, .Name y py] kt pt] (.Tuple [a, b] k2 pt2) X.env = pure (some [x, y]) := by rfl) (hs : swapsWithSole [.Tuple [.Name x px, .Name y py] kt pt] (.Tuple [a, b] k2 pt2) pos.line X.env = pure false := by rfl) :
    DSt X W (.Assign [.Tuple [.Name x px, .Name y py] kt pt] (.Tuple [a, b] k2 pt2) pos) (wPar i j wr) := ds_par_of (ps_par hc hN hi hj hij hx hy ha.pa hw hs) ha.mono
theorem st_asgT {tg : Expr} {g : TG} {is : List Nat} {set : PyData → DS → Option DS} (he : DE X W e we) (hg : PG X tg g) (ht : TgtOk X.K g is set) (hs : swapsWithSole [tg] e pos.line X.env = pure false := by rfl) (hw : swappedStores [tg] e X.env = pure none := by rfl)
    (h1 : (assignEach [tg] X.env).map (·.2) = [assign tg X.env] := by rfl) : DSt X W (.Assign [tg] e pos) (wAsgT set we) := ds_asgT he (ps_asg he.pe hg hs hw h1) ht
theorem st_put {i : Nat} {o ix : Expr} {ps : Pos} (hv : DE X W e wa) (hi : DE X W ix wb) (ho : PE X o (tVar i)) (hg : PG X (.Subscript o ix ps) (gSub (tVar i) (tD X.K W wb) rSetL)) (hs : swapsWithSole [.Subscript o ix ps] e pos.line X.env = pure false := by rfl) (hw : swappedStores [.Subscript o ix ps] e X.env = pure none := by rfl)
    (h1 : (assignEach [.Subscript o ix ps] X.env).map (·.2) = [assign (.Subscript o ix ps) X.env] := by rfl) : DSt X W (.Assign [.Subscript o ix ps] e pos) (wPut i wa wb) := ds_put hv hi (ps_asg hv.pe hg hs hw h1)
/-! ### a text backwards -/
def backS (z : Str) : Str := ⟨z.cps.toList.reverse.toArray⟩
theorem rev_range (l : List Nat) : ((List.range l.length).map fun k => l.getD (l.length - 1 - k) 0) = l.reverse := by
  apply List.ext_getElem
  · simp
  · intro i h1 h2
    simp only [List.length_map, List.length_range] at h1
    rw [List.getElem_map, List.getElem_range, List.getElem_reverse, List.getD_eq_getElem?_getD, List.getElem?_eq_getElem (by omega)]
    rfl
theorem sliceBy_back (z : Str) (u : Tok) : Txt.sliceBy z none none (-1, u) = backS z := by
  have h := step_rev_list z u
  have e : (Txt.sliceBy z none none (-1, u)).cps.toList = (backS z).cps.toList := by
    rw [h]
    obtain ⟨⟨l⟩⟩ := z
    show _ = l.reverse
    rw [← rev_range l]
    apply List.map_congr_left
    intro k _
    simp [Array.getD, List.getD_eq_getElem?_getD, Str.length]
    split
    · rename_i hk
      rw [List.getElem?_eq_getElem hk]
      rfl
    · rename_i hk
      rw [List.getElem?_eq_none (by omega)]
      rfl
  have e2 := Array.toList_inj.mp e
  cases hh : Txt.sliceBy z none none (-1, u) with
  | mk c =>
    rw [hh] at e2
    cases hb : backS z with
    | mk c' =>
      rw [hb] at e2
      exact congrArg Str.mk e2
def tRevS (te : TE) : TE := fun σ H Q => te σ H fun x H1 => ∃ z, x = .str z ∧ z.length ≤ sizeLine ∧ Q (.str (backS z)) H1
theorem pe_revS {te : TE} {k : Nat} {p1 p2 p3 : Pos} (he : PE X e te) : PE X (.Subscript e (.Slice none none (some (.UnaryOp .USub (.Constant (.int 1) k p1) p2)) p3) pos) (tRevS te) := by
  have stp : PO X (some (.UnaryOp .USub (.Constant (.int 1) k p1) p2)) (tPart (tUn (rU fun i => .int (-i)) (tC (.int 1)))) := po_some (pe_un un_neg pe_int)
  refine ⟨fun pins s σ H Q I h => Subscript_ (thn (he.run pins s σ H _ I h) fun v s1 got => ?_)⟩
  obtain ⟨x, H1, I1, r1, z, rfl, hz, q⟩ := got
  obtain ⟨t, rfl⟩ := r1
  refine wpAny_Slice (thn (po_none.run pins s1 σ H1 (fun o Ha => o = none ∧ Ha = H1) I1 ⟨rfl, rfl⟩) fun vl s2 g2 => ?_)
  obtain ⟨_, _, I2, pl, rfl, rfl⟩ := g2
  refine thn (po_none.run pins s2 σ _ (fun o Ha => o = none ∧ Ha = _) I2 ⟨rfl, rfl⟩) fun vu s3 g3 => ?_
  obtain ⟨_, _, I3, pu, rfl, rfl⟩ := g3
  refine thn (stp.run pins s3 σ _ (fun o Ha => o = some (-1) ∧ Ha = _) I3 ⟨1, rfl, -1, rfl, rfl, rfl⟩) fun vs s4 g4 => ?_
  obtain ⟨_, _, I4, pst, rfl, rfl⟩ := g4
  obtain ⟨l0, rfl, e0⟩ := IsPart.raw pl
  obtain ⟨u0, rfl, eu⟩ := IsPart.raw pu
  obtain ⟨st0, rfl, es⟩ := IsPart.raw pst
  cases l0 with
  | some _ => cases e0
  | none =>
  cases u0 with
  | some _ => cases eu
  | none =>
  cases st0 with
  | none => cases es
  | some sv =>
  obtain ⟨si, su⟩ := sv
  have esi : si = -1 := by simpa using es
  subst esi
  have I5 : Inv X pins σ _ { s4 with heap := s4.heap.push { cls := .type "slice", data := .fields #[.none, .none, .int (-1) su] } } := I4.kept (t' := s4.toks) fun b ob w => Heap.get?_push_of_some _ w
  refine tail_any (ops := [.ref s4.heap.objs.size, .str z t]) (typeIs_str _ _ _) (F.slot_str_getitem.lookup) ?_ (by with_unfolding_all rfl)
  refine wpAny_getItem_str_slice (l := none) (u := none) (st := some (-1, su)) ⟨_, Heap.get?_push_size _ rfl, rfl, rfl⟩ rfl ?_
  refine post_val_or_str ⟨Nat.le_trans (Txt.sliceBy_le z none none (-1, su) (by show (-1 : Int) ≠ 0; decide)) hz, fun t' c => ?_⟩
  rw [← sliceBy_back z su] at q
  exact ⟨.str _, _, I5.tok c, ⟨t', rfl⟩, q⟩
def revS : PyData → Option PyData
  | .str z => if z.length ≤ sizeLine then some (.str (backS z)) else none
  | _ => none
theorem de_revS {k : Nat} {p1 p2 p3 : Pos} (ha : DE X W a wa) : DE X W (.Subscript a (.Slice none none (some (.UnaryOp .USub (.Constant (.int 1) k p1) p2)) p3) pos) (wUn revS wa) := by
  refine ⟨pe_imp (pe_revS ha.pe) fun σ H Q hh => ?_, wUn_mono ha.mono⟩
  obtain ⟨B, G, F, δ, R, h⟩ := hh
  refine ⟨B, G, F, δ, R, ha.mono _ _ _ _ _ (fun x δ1 h1 => ?_) (fun _ _ z => z) h⟩
  intro G1 H1 v1 g1 R1 d1
  obtain ⟨z, hz, hq⟩ := h1
  cases d1 <;> simp only [revS, reduceCtorEq] at hz
  split at hz
  · rename_i hl
    cases hz
    exact ⟨_, rfl, hl, hq G1 H1 _ g1 R1 (.str _)⟩
  · cases hz
end
end RD

/-! The data layer, part m: small laws for the contracts. -/
namespace RD
open PySem L2
/-! steps of the readings, one by one -/
section
variable {f : PyData → PyData → Option PyData} {wa wb w : WE} {δ : DS} {Q : PyData → DS → Prop} {R : Bool → DS → Prop} {E : XC} {D : WEnds} {x : PyData} {s1 s2 t : WS} {i : Nat}
theorem u_op (h : wa δ (fun x δ1 => wb δ1 (fun y δ2 => ∃ z, f x y = some z ∧ Q z δ2) E) E) : wOp f wa wb δ Q E := h
theorem u_opC (h : wb δ (fun y δ2 => ∃ z, f x y = some z ∧ Q z δ2) E) : wOp f (wC x) wb δ Q E := h
theorem u_B (h : w δ (fun x δ' => ∃ k, x = .bool k ∧ R k δ') E) : wB w δ R E := h
theorem s_seq (h : wSeq s1 (wSeq s2 t) δ D) : wSeq (wSeq s1 s2) t δ D := h
theorem s_put (h : wa δ (fun v δ1 => (∃ xs, δ1[i]? = some (.own (.lst xs))) ∧ wb δ1 (fun k δ2 => ∃ xs n j, δ2[i]? = some (.own (.lst xs)) ∧ k = .int n ∧ ixN xs.length n = some j ∧ t (δ2.set i (.own (.lst (xs.set j v)))) D) D.ex) D.ex) : wSeq (wPut i wa wb) t δ D := h
theorem u_OS {Q : Option Int → DS → Prop} (h : w δ (fun x δ' => ∃ i, x = .int i ∧ Q (some i) δ') E) : wOS w δ Q E := h
theorem u_sl {wl wh : WO} (h : wa δ (fun x δ1 => wl δ1 (fun lo δ2 => wh δ2 (fun hi δ3 => ∃ z, slD x lo hi = some z ∧ Q z δ3) E) E) E) : wSl wa wl wh δ Q E := h
theorem u_call1 {g : List PyData → Option PyData} (h : w δ (fun x δ1 => ∃ z, g [x] = some z ∧ Q z δ1) E) : wCallF g (wCons w wNil) δ Q E := h
theorem var_d {x : PyData} (h : δ[i]? = some (.d x)) (q : Q x δ) : wVar i δ Q E := by
  unfold wVar
  rw [h]
  exact q
theorem u_if {c : WT} (h : c δ (fun b δ1 => if b = true then s1 δ1 D else s2 δ1 D) D.ex) : wIfS c s1 s2 δ D := h
theorem u_cons {wr : WA} {Q : List PyData → DS → Prop} (h : w δ (fun x δ1 => wr δ1 (fun xs δ2 => Q (x :: xs) δ2) E) E) : wCons w wr δ Q E := h
theorem s_next (h : t δ D) : wSeq wNext t δ D := h
end
theorem rng_zero (lo : Int) : rng lo lo = [] := by simp [rng]
theorem rng_len (lo hi : Int) : (rng lo hi).length = (hi - lo).toNat := by simp [rng]
theorem rng_mem {lo hi : Int} {x : PyData} (h : x ∈ rng lo hi) : ∃ i, x = .int i ∧ lo ≤ i ∧ i < hi := by
  unfold rng at h
  obtain ⟨k, hk, rfl⟩ := List.mem_map.mp h
  have := List.mem_range.mp hk
  exact ⟨_, rfl, by omega, by omega⟩
theorem rng_cons {lo hi : Int} (h : lo < hi) : rng lo hi = .int lo :: rng (lo + 1) hi := by
  unfold rng
  rw [show (hi - lo).toNat = (hi - (lo + 1)).toNat + 1 by omega, List.range_succ_eq_map]
  simp only [List.map_cons, List.map_map]
  congr 1
  · simp
  · apply List.map_congr_left
    intro k _
    simp only [Function.comp, Nat.succ_eq_add_one]
    congr 1
    omega
theorem a_St : ("a" : Str) = St [97] := by decide +kernel
theorem b_St : ("b" : Str) = St [98] := by decide +kernel
theorem c_St : ("c" : Str) = St [99] := by decide +kernel
theorem d_St : ("d" : Str) = St [100] := by decide +kernel
theorem few_S {l : List Nat} (h : l.length ≤ 100000) : fewD (S l) = true := by
  simp [fewD, St_len, h]
theorem lay_words : ∀ L : List (List Nat), (∀ l ∈ L, ∀ c ∈ l, c < 1114112) → PyData.canLayAll0 (L.map S) = true ∧ PyData.depthAll (L.map S) = 0
  | [], _ => by simp [PyData.canLayAll0, PyData.depthAll]
  | l :: L, h => by
    obtain ⟨h1, h2⟩ := lay_words L fun x hx => h x (List.mem_cons_of_mem _ hx)
    have h0 := h l List.mem_cons_self
    refine ⟨?_, ?_⟩
    · simp only [List.map_cons, PyData.canLayAll0, h1, Bool.and_true, PyData.canLay0, PyData.strOk]
      simpa [St] using h0
    · simp [PyData.depthAll, PyData.depth, h2]
theorem shaped_words {L : List (List Nat)} (h : ∀ l ∈ L, ∀ c ∈ l, c < 1114112) : SeqAt.shaped (.list (L.map S)) = true := by
  obtain ⟨h1, h2⟩ := lay_words L h
  simp [SeqAt.shaped, PyData.canLay0, PyData.depth, h1, h2]
theorem ne_nil {L : List (List Nat)} (h : ∀ l ∈ L, ∀ c ∈ l, c < 1114112) : neD (.list (L.map S)) (.list []) = some (.bool (!L.isEmpty)) := by
  have e : eqOk (.list (L.map S)) (.list []) = true := by
    show (SeqAt.shaped (.list (L.map S)) && SeqAt.shaped (.list [])) = true
    rw [shaped_words h]
    rfl
  unfold neD
  rw [if_pos e]
  cases L with
  | nil => rfl
  | cons => rfl
theorem at0 (x : PyData) (xs : List PyData) : ixD (.list (x :: xs)) (.int 0) = some x := by
  simp only [ixD, atI, ixN, List.length_cons]
  rw [if_pos (by decide), if_pos (by omega)]
  rfl
theorem let_code {c : Nat} (h : letB c = true) : c < 1114112 := by
  unfold letB at h
  simp only [Bool.or_eq_true, beq_iff_eq] at h
  omega
theorem isWord_str {d : PyData} (h : isWordD d = true) : ∃ a, d = S a ∧ wordB a = true := by
  cases d with
  | str z => exact ⟨z.cps.toList, (S_eta z).symm, h⟩
  | _ => cases h
theorem rngDown_zero : rngDown ((0 : Nat) : Int) 0 = [] := rfl
theorem rngDown_succ (n : Nat) : rngDown ((n + 1 : Nat) : Int) 0 = .int ((n + 1 : Nat) : Int) :: rngDown ((n : Nat) : Int) 0 := by
  unfold rngDown
  have e1 : (((n + 1 : Nat) : Int) - 0).toNat = n + 1 := by omega
  have e2 : (((n : Nat) : Int) - 0).toNat = n := by omega
  rw [e1, e2, List.range_succ_eq_map, List.map_cons, List.map_map]
  congr 1
  apply List.map_congr_left
  intro k _
  show PyData.int (((n + 1 : Nat) : Int) - ((k + 1 : Nat) : Int)) = PyData.int (((n : Nat) : Int) - (k : Int))
  congr 1
  omega
/-! ### lists of single signs -/
abbrev ch (l : List Nat) : List PyData := l.map fun c => S [c]
theorem ch_at {l : List Nat} {i : Int} (h0 : 0 ≤ i) (h1 : i < l.length) : ∃ c ∈ l, ixD (.list (ch l)) (.int i) = some (S [c]) := by
  have hi : i.toNat < l.length := by omega
  refine ⟨l[i.toNat], List.getElem_mem hi, ?_⟩
  simp only [ixD, atI, ixN, List.length_map]
  rw [if_pos h0, if_pos h1]
  simp [hi]
theorem lc_chars {set : PyData → DS → Option DS} {is : List Nat} {we : WE} {Q : List PyData → DS → Prop} {δ : DS} (P : Nat → Prop) : ∀ (items : List PyData) (acc : List Nat), (∀ c ∈ acc, P c) →
    (∀ x ∈ items, ∃ δ1, set x δ = some δ1 ∧ ∀ R : PyData → DS → Prop, (∀ c δ2, P c → wipeD δ2 is = δ → R (S [c]) δ2) → we δ1 R noX) → acc.length + items.length ≤ 1000 →
    (∀ l', l'.length = acc.length + items.length → (∀ c ∈ l', P c) → Q (ch l') δ) → wLcL set is wYes we items δ (ch acc) Q
  | [], acc, ha, _, _, q => q acc (by simp) ha
  | x :: xs, acc, ha, h, hl, q => by
    obtain ⟨δ1, e1, h1⟩ := h x List.mem_cons_self
    refine lc_step e1 (h1 _ fun c δ2 hc e2 => ⟨by simp only [List.length_cons] at hl; simp only [List.length_map]; exact lt_line (by omega), ?_⟩)
    rw [e2]
    have e : ch acc ++ [S [c]] = ch (acc ++ [c]) := by simp [ch]
    rw [e]
    simp only [List.length_cons] at hl q
    refine lc_chars P xs (acc ++ [c]) (fun c' hc' => ?_) (fun y hy => h y (List.mem_cons_of_mem _ hy)) (by simp; omega) fun l' h1 h2 => q l' (by simp at h1; omega) h2
    rcases List.mem_append.mp hc' with z | z
    · exact ha c' z
    · have : c' = c := by simpa using z
      rw [this]
      exact hc
theorem raised_ok : PyData.strOk "raised" = true := by decide +kernel
theorem told_shaped (i : Int) : SeqAt.shaped (told i) = true := by
  simp [SeqAt.shaped, told, PyData.canLay0, PyData.canLayAll0, PyData.depth, PyData.depthAll, raised_ok]
theorem ne_told (i j : Int) : neD (told i) (told j) = some (.bool (!decide (i = j))) := by
  have e : eqOk (told i) (told j) = true := by
    show (SeqAt.shaped (told i) && SeqAt.shaped (told j)) = true
    rw [told_shaped, told_shaped]
    rfl
  unfold neD
  rw [if_pos e]
  congr 3
  simp [told, PyData.eqv, PyData.eqvAll]
  rfl
theorem ne_same {x : PyData} (h : SeqAt.shaped x = true) (hs : ∀ z, x ≠ .str z) : neD x x = some (.bool false) := by
  have e : eqOk x x = true := by
    unfold eqOk
    split
    · rfl
    · rw [h]
      rfl
  unfold neD
  rw [if_pos e, SeqAt.eqv_refl x (SeqAt.canLay_of_shaped h)]
  rfl
end RD

/-! The data layer, part n: dicts that are filled and sorted. -/
namespace RD
open PySem PySem.Spec PyProof.Rows L2
section
variable {X : Cx} {W : WX} {a b c e o : Expr} {es : List Expr} {pos p ps : Pos} {wa wb wc we : WE} {wr : WA} {st : Stmt}
def wDk : WN := fun δ Q _ => Q (.dk []) δ
def wDt : WN := fun δ Q _ => Q (.dt []) δ
theorem _root_.L2.Room.un1 {k : Nat} {A : Around} (r : Room k A) : A.units + 1 < cLine := by have := r.un; omega
theorem dn_dk : DN X W (.Dict [] [] pos) wDk := by
  refine ⟨pe_imp pe_dnewK fun σ H Q hh => ?_, fun _ _ _ _ _ hq _ h => hq _ _ h⟩
  obtain ⟨B, G, F, δ, R, hq⟩ := hh
  intro q hn
  obtain ⟨n1, n2⟩ := R.fresh hn
  exact hq G _ q _ (Gr.refl F G) (R.heap (same_new hn)) n1 n2 (R.loose hn) upd_same rfl
theorem dn_dt : DN X W (.Dict [] [] pos) wDt := by
  refine ⟨pe_imp pe_dnewT fun σ H Q hh => ?_, fun _ _ _ _ _ hq _ h => hq _ _ h⟩
  obtain ⟨B, G, F, δ, R, hq⟩ := hh
  intro q hn
  obtain ⟨n1, n2⟩ := R.fresh hn
  exact hq G _ q _ (Gr.refl F G) (R.heap (same_new hn)) n1 n2 (R.loose hn) upd_same rfl
/-- d[text] = True -/
def wPutK (i : Nat) (w : WE) : WS := fun δ D => (∃ ks, δ[i]? = some (.own (.dk ks))) ∧ w δ (fun k δ2 => ∃ z ks, k = .str z ∧ δ2[i]? = some (.own (.dk ks)) ∧ ks.length < sizeLine ∧ D.nx (δ2.set i (.own (.dk (putK ks (.inr z) (.bl true)))))) D.ex
theorem wPutK_mono {i : Nat} (h : MonoE we) : MonoS (wPutK i we) := fun δ D D' l ⟨h0, hh⟩ => ⟨h0, h _ _ _ _ _ (fun k δ2 ⟨z, ks, y1, y2, y3, y4⟩ => ⟨z, ks, y1, y2, y3, l.nx _ y4⟩) l.ex hh⟩
theorem ds_putK {i : Nat} {ix : Expr} (hi : DE X W ix we) (p1 : PS X st (tAsg (tC (.bl true)) (gSub (tVar i) (tD X.K W we) rSetD))) : DSt X W st (wPutK i we) := by
  refine ⟨ps_imp p1 fun D σ H hh => ?_, wPutK_mono hi.mono⟩
  obtain ⟨B, G, F, δ, R, ⟨ks0, e0⟩, hh⟩ := hh
  obtain ⟨q, ob, ep, _, _, hp, ho⟩ := R.own e0
  refine ⟨_, ep, B, G, F, δ, R, hi.mono _ _ _ _ _ (fun k δ2 h2 => ?_) xL_of hh⟩
  intro G2 H2 v2 g2 R2 d2
  obtain ⟨z, ks, rfl, e1, hl, h3⟩ := h2
  obtain ⟨q', ob', ep', _, _, hp', ho'⟩ := R2.own e1
  rw [ep] at ep'
  cases ep'
  cases ho'
  cases d2
  exact ⟨q, _, rfl, DPut.k (k := .inr z) hp' hl, h3 G2 σ _ g2 (R2.mut e1 ep rfl)⟩
theorem st_putK {i : Nat} {ix : Expr} {k : Nat} {pv : Pos} (hu : X.A.units + 1 < cLine) (hi : DE X W ix we) (hg : PG X (.Subscript o ix ps) (gSub (tVar i) (tD X.K W we) rSetD)) (hs : swapsWithSole [.Subscript o ix ps] (.Constant (.bool true) k pv) pos.line X.env = pure false := by rfl)
    (hw : swappedStores [.Subscript o ix ps] (.Constant (.bool true) k pv) X.env = pure none := by rfl) (h1 : (assignEach [.Subscript o ix ps] X.env).map (·.2) = [assign (.Subscript o ix ps) X.env] := by rfl) :
    DSt X W (.Assign [.Subscript o ix ps] (.Constant (.bool true) k pv) pos) (wPutK i we) := ds_putK hi (ps_asg pe_bl hg hs hw h1)
/-! sorted(d), the keys are texts -/
abbrev leS (x y : Str) : Bool := PySem.W.dataLe false PyData.str x y
theorem strs_each : ∀ {us : List Value} {ks : List Str}, StrsAre us ks → PySem.W.EachIs (fun u z => ∃ t, u = Value.str z t) us ks
  | _, _, .nil => .nil
  | _, _, .cons n t hr => .cons ⟨t, rfl⟩ (strs_each hr)
theorem each_strs : ∀ {us : List Value} {ks : List Str}, PySem.W.EachIs (fun u z => ∃ t, u = Value.str z t) us ks → Vals (ks.map V.str) us
  | _, _, .nil => .nil
  | _, _, .cons ⟨t, h⟩ hr => .cons ⟨t, h⟩ (each_strs hr)
theorem strs_reads {h : Heap} {q : Addr} : ∀ {us : List Value} {ks : List Str}, PySem.W.EachIs (fun u z => ∃ t, u = Value.str z t) us ks → PySem.W.EachIs (fun v z => ∃ as, Reads h v (PyData.str z) as ∧ q ∉ as) us ks
  | _, _, .nil => .nil
  | _, _, .cons ⟨t, h⟩ hr => .cons ⟨[], by subst h; exact .str _ _, by simp⟩ (strs_reads hr)
theorem strs_mk : ∀ {us : List Value} {ks : List Str}, us.length = ks.length → (∀ (j : Nat) (v : Value), us[j]? = some v → ∃ (x : Str) (t : Tok), ks[j]? = some x ∧ v = .str x t) → StrsAre us ks
  | [], [], _, _ => .nil
  | [], _ :: _, hl, _ => by simp at hl
  | _ :: _, [], hl, _ => by simp at hl
  | u :: us, z :: ks, hl, h => by
    obtain ⟨x, t, e1, e2⟩ := h 0 u rfl
    cases Option.some.inj e1
    subst e2
    exact .cons _ t (strs_mk (by simpa using hl) fun j v e => h (j + 1) v e)
theorem alike_strs (ks : List Str) : PySem.W.AllAlike (ks.map PyData.str) := PySem.W.AllAlike.of fun _ _ => rfl
theorem cr_sortDk (hc : X.calm = true) {k : Nat} (hr : Room k X.A) : CallR X (.builtin "sorted") (fun xs H Q => ∃ (a : Addr) (kvs : List (Key × V)) (ks : List Str), xs = [.ref a] ∧ Rd H a (.dK kvs) ∧ kvs.map (·.1) = ks.map Sum.inr ∧
    ∀ q, H q = none → Q (.ref q) (upd H q (.lst ((ks.mergeSort leS).map V.str)))) := by
  rintro pins s σ H xs us Q I r ⟨a, kvs, ks, rfl, hd, hks, q⟩
  obtain ⟨u, rfl, rx⟩ := vals1 r
  cases rx
  obtain ⟨hz, lo, vs, rel, dd⟩ := dk_rd I.hok hd
  obtain ⟨ep, hat⟩ := dd.dictAt
  have keys : vs.map (·.1) = ks.map Sum.inr := rel.keys.symm.trans hks
  have ln : vs.length = ks.length := by simpa using congrArg List.length keys
  have ln2 : kvs.length = ks.length := by simpa using congrArg List.length hks
  have room := hr.un
  refine Calls.call_function_entry kind_sorted plain_sorted entry_sorted (args_sorted1 _) ?_
  unfold Builtin.«sorted»
  refine wpAny_bind (m := checkCount "sorted" 1 1 _) (wpAny_pure (wpAny_bind ?_))
  refine PySem.W.kdu_collect (A := X.A.in1) (PySem.W.kdl_dict (knd := mixKind X.prog X.w) (kvs := vs) (ep := ep) lo) (I.ok.hd hc) hat (by omega) fun h' tk acc hk hacc => ?_
  have la : acc.toList.length = ks.length := by rw [Array.length_toList, hacc.1, ln]
  have are : StrsAre acc.toList ks := strs_mk la fun j v e => by
    obtain ⟨key, x, e1, e2⟩ := hacc.2 j v (by rw [← Array.getElem?_toList]; exact e)
    have e3 : (ks.map (Sum.inr : Str → Key))[j]? = some key := by
      rw [← keys, List.getElem?_map, e1]
      rfl
    rw [List.getElem?_map] at e3
    cases e4 : ks[j]? with
    | none =>
      rw [e4] at e3
      cases e3
    | some y =>
      rw [e4] at e3
      cases Option.some.inj e3
      obtain ⟨t, ev⟩ := Value.isStrOf_shape (x := y) (v := v) e2
      exact ⟨y, t, rfl, ev⟩
  have I1 : Inv X pins σ H { s with heap := h', toks := tk } := I.kept hk
  have each := strs_each are
  refine wpAny_bind (wpAny_newList ?_ (by rw [la]; omega))
  have at1 : (h'.push (seqObj "list" acc.toList.toArray 0)).get? h'.objs.size = some (seqObj "list" acc.toList.toArray 0) := Heap.get?_push_size _ rfl
  show wpAny _ _ _ _ _ { s with heap := h'.push (seqObj "list" acc.toList.toArray 0), toks := tk }
  refine wpAny_bind (wpAny_holding (PySem.W.list_sort_data (enc := PyData.str) at1 each (strs_reads each) (alike_strs ks) (PySem.W.Sortable.others fun _ => ⟨(fun z => nomatch z), fun _ z => nomatch z⟩) (by omega) (fun z _ => ?_) fun out ho he => ?_))
  · show X.A.units + 1 + 1 + 0 < cLine
    omega
  · obtain ⟨e', he'⟩ := sortedHeap_at (vs := acc.toList) (out := out.toArray) at1
    have fr : H h'.objs.size = none := I1.hok.fresh (Nat.le_refl _)
    have hlen : ((ks.mergeSort leS).map V.str).length ≤ sizeLine := by
      rw [List.length_map, List.length_mergeSort]
      omega
    refine wpAny_pure ⟨_, rfl, .ref h'.objs.size, upd H h'.objs.size (.lst ((ks.mergeSort leS).map V.str)), I1.laid (t' := tk) (fun b u e => ?_) (Nat.le_refl _) ⟨hlen, out, e', each_strs he, he'⟩, rfl, q _ fr⟩
    have hb : b < h'.objs.size := Heap.lt_size e
    rw [sortedHeap_old (Nat.ne_of_lt hb) (by rw [size_push']; exact Nat.lt_succ_of_lt hb)]
    exact Heap.get?_push_of_some _ e
theorem dq_strs {G : Hp} : ∀ zs : List Str, DqAll G (zs.map V.str) (zs.map PyData.str)
  | [] => .nil
  | z :: zs => .cons (.str z) (dq_strs zs)
def wSortK (i : Nat) : WE := fun δ Q _ => ∃ (ks : List (Key × V)) (zs : List Str), δ[i]? = some (.own (.dk ks)) ∧ ks.map (·.1) = zs.map Sum.inr ∧ Q (.list ((zs.mergeSort leS).map PyData.str)) δ
theorem wSortK_mono (i : Nat) : MonoE (wSortK i) := fun _ _ _ _ _ hq _ ⟨ks, zs, h1, h2, h3⟩ => ⟨ks, zs, h1, h2, hq _ _ h3⟩
theorem de_sortDk {i k : Nat} (hc : X.calm = true) (hr : Room k X.A) (hm : X.mg "sorted" = none) (ho : PE X o (tVar i)) (hg : Gl X "sorted" := by rfl) (hs : starEach [o] X.env = (false, eval o X.env) :: starEach [] X.env := by rfl) :
    DE X W (.Call (.Name "sorted" p) [o] [] pos) (wSortK i) := by
  refine ⟨pe_imp (pe_callB (cr_sortDk hc hr) hg hm (by decide +kernel) (pa_cons ho pa_nil hs) (by decide) (by decide) hs rfl) fun σ H Q hh => ?_, wSortK_mono i⟩
  obtain ⟨B, G, F, δ, R, ks, zs, e1, e2, hq⟩ := hh
  obtain ⟨q0, ob, ep, _, _, hp, hob⟩ := R.own e1
  cases hob
  refine ⟨_, ep, q0, ks, zs, rfl, .inl hp, e2, fun q hn => ?_⟩
  have w0 := Gw.new (o := .lst ((zs.mergeSort leS).map V.str)) R.g hn
  exact hq _ _ _ (w0.gr R.f) (R.gw w0) (.lst upd_same (dq_strs _))
end
end RD

/-! Overlaps and words that hold two words: plain lists of codes. -/
namespace RD
open PySem L2
def lapFrom (a b : List Nat) : Nat → Nat
  | 0 => 0
  | n + 1 => if a.drop (a.length - (n + 1)) = b.take (n + 1) then n + 1 else lapFrom a b n
def lap (a b : List Nat) : Nat := lapFrom a b (min a.length b.length)
theorem lapFrom_le (a b : List Nat) : ∀ n, lapFrom a b n ≤ n
  | 0 => Nat.le_refl _
  | n + 1 => by
    unfold lapFrom
    split
    · exact Nat.le_refl _
    · exact Nat.le_succ_of_le (lapFrom_le a b n)
theorem lapFrom_is (a b : List Nat) : ∀ n, a.drop (a.length - lapFrom a b n) = b.take (lapFrom a b n)
  | 0 => by simp [lapFrom]
  | n + 1 => by
    unfold lapFrom
    split
    · assumption
    · exact lapFrom_is a b n
theorem lapFrom_most (a b : List Nat) : ∀ n k, k ≤ n → a.drop (a.length - k) = b.take k → k ≤ lapFrom a b n
  | 0, k, h, _ => h
  | n + 1, k, h, e => by
    unfold lapFrom
    split
    · exact h
    · rename_i hne
      by_cases hk : k = n + 1
      · subst hk
        exact absurd e hne
      · exact lapFrom_most a b n k (by omega) e
theorem lap_le (a b : List Nat) : lap a b ≤ a.length ∧ lap a b ≤ b.length := by
  have := lapFrom_le a b (min a.length b.length)
  unfold lap
  omega
/-- one after the other, the overlap once -/
def merge (a b : List Nat) : List Nat := a ++ b.drop (lap a b)
theorem merge_len (a b : List Nat) : (merge a b).length = a.length + b.length - lap a b := by
  have := lap_le a b
  simp [merge]
  omega
/-- the order of (length, word) -/
def pairLt (x y : List Nat) : Bool := decide (x.length < y.length ∨ (x.length = y.length ∧ x < y))
def holdL (a b : List Nat) : List Nat := if infixB a b = true ∨ infixB b a = true then (if pairLt a b = true then b else a) else (if pairLt (merge b a) (merge a b) = true then merge b a else merge a b)
def pairD (x : List Nat) : PyData := .tuple [.int (x.length : Int), S x]
theorem dataLt_S (x y : List Nat) : PySem.W.dataLt (S x) (S y) = decide (x < y) := by
  have h := congrFun (congrFun (PySem.W.dataLe_str (β := List Nat) (fun l => St l)) y) x
  rw [PySem.W.dataLe_eq] at h
  simp only [cond_false] at h
  have e : ∀ p q : Bool, (!p) = q → p = !q := by decide
  have h' := e _ _ h
  rw [show PyData.str (St x) = S x from rfl, show PyData.str (St y) = S y from rfl] at h'
  rw [h']
  by_cases hl : x < y
  · rw [decide_eq_true hl]
    have : ¬ (St y).cps.toList ≤ (St x).cps.toList := by
      intro z
      exact absurd hl (by simpa using z)
    rw [decide_eq_false this]
    rfl
  · rw [decide_eq_false hl]
    have : (St y).cps.toList ≤ (St x).cps.toList := by
      simpa using hl
    rw [decide_eq_true this]
    rfl
theorem dataLt_I (x y : Int) : PySem.W.dataLt (.int x) (.int y) = decide (x < y) := by
  have h := congrFun (congrFun (PySem.W.dataLe_int (β := Int) (fun l => l)) y) x
  rw [PySem.W.dataLe_eq] at h
  simp only [cond_false] at h
  have e : ∀ p q : Bool, (!p) = q → p = !q := by decide
  have h' := e _ _ h
  rw [h']
  by_cases hl : x < y
  · rw [decide_eq_true hl, decide_eq_false (by omega)]
    rfl
  · rw [decide_eq_false hl, decide_eq_true (by omega)]
    rfl
theorem eqv_I (i j : Int) : PyData.eqv (.int i) (.int j) = decide (i = j) := by
  simp only [PyData.eqv]
  rfl
theorem dataLt_pairD (x y : List Nat) : PySem.W.dataLt (pairD x) (pairD y) = pairLt x y := by
  unfold pairD pairLt
  rw [PySem.W.dataLt_pair (by rfl) (by rfl), dataLt_I, dataLt_S, eqv_S, eqv_I]
  by_cases h1 : x.length = y.length
  · have e1 : decide ((x.length : Int) = (y.length : Int)) = true := decide_eq_true (by omega)
    rw [e1, if_pos rfl]
    by_cases h2 : x = y
    · subst h2
      rw [decide_eq_true rfl, if_pos rfl]
      symm
      rw [decide_eq_false_iff_not]
      rintro (h | ⟨_, h⟩)
      · omega
      · exact List.lt_irrefl x h
    · rw [decide_eq_false h2, if_neg (by decide), Bool.eq_iff_iff, decide_eq_true_eq, decide_eq_true_eq]
      exact ⟨fun h => .inr ⟨h1, h⟩, fun h => h.elim (fun z => absurd h1 (by omega)) fun z => z.2⟩
  · have e1 : decide ((x.length : Int) = (y.length : Int)) = false := decide_eq_false (by omega)
    rw [e1, if_neg (by decide), Bool.eq_iff_iff, decide_eq_true_eq, decide_eq_true_eq]
    exact ⟨fun h => .inl (by omega), fun h => h.elim (fun z => by omega) fun z => absurd z.1 h1⟩
end RD

namespace RD
open PySem L2
theorem infixB_len {a b : List Nat} (h : infixB a b = true) : a.length ≤ b.length := by
  obtain ⟨u, v, rfl⟩ := infixB_iff.mp h
  simp
  omega
theorem infixB_eq {a b : List Nat} (h : infixB a b = true) (e : a.length = b.length) : a = b := by
  obtain ⟨u, v, rfl⟩ := infixB_iff.mp h
  simp at e
  have hu : u = [] := List.length_eq_zero_iff.mp (by omega)
  have hv : v = [] := List.length_eq_zero_iff.mp (by omega)
  simp [hu, hv]
theorem infixB_self (a : List Nat) : infixB a a = true := infixB_iff.mpr ⟨[], [], by simp⟩
theorem infixB_at {a w : List Nat} (h : infixB a w = true) : ∃ i, i + a.length ≤ w.length ∧ (w.drop i).take a.length = a := by
  obtain ⟨u, v, rfl⟩ := infixB_iff.mp h
  refine ⟨u.length, by simp, ?_⟩
  rw [List.append_assoc, List.drop_left, List.take_left]
theorem infixB_of_at {a w : List Nat} {i : Nat} (h : (w.drop i).take a.length = a) : infixB a w = true := by
  refine infixB_iff.mpr ⟨w.take i, (w.drop i).drop a.length, ?_⟩
  rw [List.append_assoc]
  conv => lhs; rw [← List.take_append_drop i w]
  congr 1
  conv => lhs; rw [← List.take_append_drop a.length (w.drop i)]
  rw [h]
theorem merge_left (a b : List Nat) : infixB a (merge a b) = true := infixB_iff.mpr ⟨[], b.drop (lap a b), by simp [merge]⟩
theorem merge_right (a b : List Nat) : infixB b (merge a b) = true := by
  refine infixB_iff.mpr ⟨a.take (a.length - lap a b), [], ?_⟩
  have h := lapFrom_is a b (min a.length b.length)
  have h' : a.drop (a.length - lap a b) = b.take (lap a b) := h
  have e : a = a.take (a.length - lap a b) ++ b.take (lap a b) := by rw [← h', List.take_append_drop]
  unfold merge
  calc a ++ b.drop (lap a b) = (a.take (a.length - lap a b) ++ b.take (lap a b)) ++ b.drop (lap a b) := by rw [← e]
    _ = a.take (a.length - lap a b) ++ b ++ [] := by rw [List.append_assoc, List.take_append_drop, List.append_nil]
theorem pairLt_asymm {x y : List Nat} (h : pairLt x y = true) : pairLt y x = false := by
  unfold pairLt at h ⊢
  rw [decide_eq_true_eq] at h
  rw [decide_eq_false_iff_not]
  rintro (h' | ⟨h1, h2⟩)
  · rcases h with h | ⟨h, _⟩ <;> omega
  · rcases h with h | ⟨_, h⟩
    · omega
    · exact List.lt_asymm h h2
theorem pairLt_tri {x y : List Nat} (h1 : pairLt x y = false) (h2 : pairLt y x = false) : x = y := by
  unfold pairLt at h1 h2
  rw [decide_eq_false_iff_not] at h1 h2
  have hl : x.length = y.length := by
    rcases Nat.lt_trichotomy x.length y.length with h | h | h
    · exact absurd (.inl h) h1
    · exact h
    · exact absurd (.inl h) h2
  have a1 : ¬ x < y := fun z => h1 (.inr ⟨hl, z⟩)
  have a2 : ¬ y < x := fun z => h2 (.inr ⟨hl.symm, z⟩)
  exact List.le_antisymm (by simpa using a2) (by simpa using a1)
theorem holdL_comm (a b : List Nat) : holdL b a = holdL a b := by
  unfold holdL
  by_cases h : infixB a b = true ∨ infixB b a = true
  · rw [if_pos h, if_pos h.symm]
    cases e1 : pairLt a b with
    | true =>
      rw [pairLt_asymm e1]
      rfl
    | false =>
      cases e2 : pairLt b a with
      | true => rfl
      | false => exact (pairLt_tri e2 e1)
  · rw [if_neg h, if_neg (fun z => h z.symm)]
    cases e1 : pairLt (merge b a) (merge a b) with
    | true =>
      rw [pairLt_asymm e1]
      rfl
    | false =>
      cases e2 : pairLt (merge a b) (merge b a) with
      | true => rfl
      | false => exact pairLt_tri e1 e2
theorem holdL_has (a b : List Nat) : infixB a (holdL a b) = true ∧ infixB b (holdL a b) = true := by
  unfold holdL
  by_cases h : infixB a b = true ∨ infixB b a = true
  · rw [if_pos h]
    cases e1 : pairLt a b with
    | true =>
      refine ⟨?_, infixB_self b⟩
      rcases h with h | h
      · exact h
      · have := infixB_len h
        unfold pairLt at e1
        rw [decide_eq_true_eq] at e1
        have e : b.length = a.length := by rcases e1 with e | ⟨e, _⟩ <;> omega
        rw [infixB_eq h e]
        exact infixB_self a
    | false =>
      refine ⟨infixB_self a, ?_⟩
      rcases h with h | h
      · have h1 := infixB_len h
        unfold pairLt at e1
        rw [decide_eq_false_iff_not] at e1
        have e : a.length = b.length := by
          rcases Nat.lt_or_ge a.length b.length with z | z
          · exact absurd (.inl z) e1
          · omega
        rw [infixB_eq h e]
        exact infixB_self b
      · exact h
  · rw [if_neg h]
    split
    · exact ⟨merge_right b a, merge_left b a⟩
    · exact ⟨merge_left a b, merge_right a b⟩
/-- a comes first -/
theorem merge_least {a b w : List Nat} {i j : Nat} (nb : infixB b a = false) (ha : (w.drop i).take a.length = a) (hb : (w.drop j).take b.length = b) (hi : i + a.length ≤ w.length) (hj : j + b.length ≤ w.length) (hij : i ≤ j) :
    (merge a b).length ≤ w.length ∧ (w.length = (merge a b).length → w = merge a b) := by
  have hout : i + a.length < j + b.length := by
    rcases Nat.lt_or_ge (i + a.length) (j + b.length) with h | h
    · exact h
    · exfalso
      have : infixB b a = true := by
        refine infixB_of_at (i := j - i) ?_
        rw [← ha, List.drop_take, List.take_take, List.drop_drop, show i + (j - i) = j by omega, Nat.min_eq_left (by omega)]
        exact hb
      rw [nb] at this
      cases this
  have ml := merge_len a b
  have ll := lap_le a b
  rcases Nat.lt_or_ge j (i + a.length) with h | h
  · have ho : a.drop (a.length - (i + a.length - j)) = b.take (i + a.length - j) := by
      have e1 : a.length - (i + a.length - j) = j - i := by omega
      have e2 : a.drop (j - i) = (w.drop j).take (i + a.length - j) := by
        conv => lhs; rw [← ha]
        rw [List.drop_take, List.drop_drop, show i + (j - i) = j by omega, show a.length - (j - i) = i + a.length - j by omega]
      have e3 : b.take (i + a.length - j) = (w.drop j).take (i + a.length - j) := by
        conv => lhs; rw [← hb]
        rw [List.take_take, Nat.min_eq_left (by omega)]
      rw [e1, e2, e3]
    have hm : i + a.length - j ≤ lap a b := lapFrom_most a b _ _ (by omega) ho
    refine ⟨by omega, fun e => ?_⟩
    have i0 : i = 0 := by omega
    have el : i + a.length - j = lap a b := by omega
    have ew : w.length = j + b.length := by omega
    subst i0
    have wj : w.drop j = b := by
      rw [← hb, List.take_of_length_le (by simp; omega)]
    rw [List.drop_zero] at ha
    unfold merge
    conv => lhs; rw [← List.take_append_drop a.length w]
    rw [ha]
    congr 1
    rw [show a.length = j + (a.length - j) by omega, ← List.drop_drop, wj]
    congr 1
    omega
  · refine ⟨by omega, fun e => ?_⟩
    have i0 : i = 0 := by omega
    have l0 : lap a b = 0 := by omega
    have j0 : j = a.length := by omega
    subst i0 j0
    rw [List.drop_zero] at ha
    unfold merge
    rw [l0, List.drop_zero]
    conv => lhs; rw [← List.take_append_drop a.length w]
    rw [ha]
    congr 1
    rw [← hb, List.take_of_length_le (by simp; omega)]
/-- nothing shorter, and of the same length nothing before it -/
theorem holdL_least {a b w : List Nat} (h1 : infixB a w = true) (h2 : infixB b w = true) : (holdL a b).length ≤ w.length ∧ (w.length = (holdL a b).length → ¬ w < holdL a b) := by
  unfold holdL
  by_cases h : infixB a b = true ∨ infixB b a = true
  · rw [if_pos h]
    split
    · exact ⟨infixB_len h2, fun e => by rw [infixB_eq h2 e.symm]; exact List.lt_irrefl _⟩
    · exact ⟨infixB_len h1, fun e => by rw [infixB_eq h1 e.symm]; exact List.lt_irrefl _⟩
  · rw [if_neg h]
    have na : infixB a b = false := by
      cases e : infixB a b with
      | true => exact absurd (.inl e) h
      | false => rfl
    have nb : infixB b a = false := by
      cases e : infixB b a with
      | true => exact absurd (.inr e) h
      | false => rfl
    obtain ⟨i, hi, ei⟩ := infixB_at h1
    obtain ⟨j, hj, ej⟩ := infixB_at h2
    have key : ((merge a b).length ≤ w.length ∧ (w.length = (merge a b).length → w = merge a b)) ∨ ((merge b a).length ≤ w.length ∧ (w.length = (merge b a).length → w = merge b a)) := by
      rcases Nat.le_total i j with hij | hij
      · exact .inl (merge_least nb ei ej hi hj hij)
      · exact .inr (merge_least na ej ei hj hi hij)
    split
    · rename_i hp
      unfold pairLt at hp
      rw [decide_eq_true_eq] at hp
      rcases key with ⟨k1, k2⟩ | ⟨k1, k2⟩
      · refine ⟨by rcases hp with z | z <;> omega, fun e => ?_⟩
        rcases hp with z | ⟨z1, z2⟩
        · omega
        · rw [k2 (by omega)]
          exact List.lt_asymm z2
      · exact ⟨k1, fun e => by rw [k2 e]; exact List.lt_irrefl _⟩
    · rename_i hp
      have hp : pairLt (merge b a) (merge a b) = false := by simpa using hp
      unfold pairLt at hp
      rw [decide_eq_false_iff_not] at hp
      rcases key with ⟨k1, k2⟩ | ⟨k1, k2⟩
      · exact ⟨k1, fun e => by rw [k2 e]; exact List.lt_irrefl _⟩
      · have hl : ¬ (merge b a).length < (merge a b).length := fun z => hp (.inl z)
        refine ⟨by omega, fun e => ?_⟩
        have e2 := k2 (by omega)
        rw [e2]
        intro z
        exact hp (.inr ⟨by rw [← e2]; exact e, z⟩)
/-! ### all words of two letters -/
def words2 : Nat → List (List Nat)
  | 0 => [[]]
  | n + 1 => (words2 n).flatMap fun w => [w ++ [97], w ++ [98]]
theorem words2_mem : ∀ (n : Nat) (l : List Nat), l ∈ words2 n ↔ l.length = n ∧ ∀ c ∈ l, c = 97 ∨ c = 98
  | 0, l => by
    simp only [words2, List.mem_singleton]
    constructor
    · rintro rfl
      simp
    · rintro ⟨h, _⟩
      exact List.length_eq_zero_iff.mp h
  | n + 1, l => by
    simp only [words2, List.mem_flatMap]
    constructor
    · rintro ⟨w, hw, hl⟩
      obtain ⟨h1, h2⟩ := (words2_mem n w).mp hw
      have hl' : l = w ++ [97] ∨ l = w ++ [98] := by simpa using hl
      rcases hl' with rfl | rfl
      · refine ⟨by simp [h1], fun c hc => ?_⟩
        rcases List.mem_append.mp hc with hc | hc
        · exact h2 c hc
        · exact .inl (by simpa using hc)
      · refine ⟨by simp [h1], fun c hc => ?_⟩
        rcases List.mem_append.mp hc with hc | hc
        · exact h2 c hc
        · exact .inr (by simpa using hc)
    · rintro ⟨h1, h2⟩
      have hne : l ≠ [] := fun z => by
        subst z
        cases h1
      refine ⟨l.dropLast, (words2_mem n _).mpr ⟨by simp [h1], fun c hc => h2 c (List.dropLast_subset l hc)⟩, ?_⟩
      have e := List.dropLast_concat_getLast hne
      have hlast := h2 (l.getLast hne) (List.getLast_mem hne)
      rcases hlast with z | z
      · rw [z] at e
        simp [e]
      · rw [z] at e
        simp [e]
theorem lt_app : ∀ {x y : List Nat} (s t : List Nat), x.length = y.length → x < y → x ++ s < y ++ t
  | [], [], _, _, _, h => absurd h (List.lt_irrefl _)
  | a :: x, b :: y, s, t, hl, h => by
    rw [List.cons_append, List.cons_append, List.cons_lt_cons_iff]
    rcases List.cons_lt_cons_iff.mp h with h | ⟨e, h'⟩
    · exact .inl h
    · exact .inr ⟨e, lt_app s t (by simpa using hl) h'⟩
theorem lt_app_right : ∀ (w : List Nat) {s t : List Nat}, s < t → w ++ s < w ++ t
  | [], _, _, h => h
  | a :: w, s, t, h => by
    rw [List.cons_append, List.cons_append, List.cons_lt_cons_iff]
    exact .inr ⟨rfl, lt_app_right w h⟩
theorem words2_sorted : ∀ n : Nat, (words2 n).Pairwise (· < ·)
  | 0 => List.pairwise_singleton _ _
  | n + 1 => by
    simp only [words2]
    rw [List.pairwise_flatMap]
    refine ⟨fun w hw => ?_, ?_⟩
    · refine List.pairwise_pair.mpr (lt_app_right w ?_)
      decide
    · refine (words2_sorted n).imp_of_mem fun {u v} hu hv h x hx y hy => ?_
      have lu := ((words2_mem n u).mp hu).1
      have lv := ((words2_mem n v).mp hv).1
      have hx' : x = u ++ [97] ∨ x = u ++ [98] := by simpa using hx
      have hy' : y = v ++ [97] ∨ y = v ++ [98] := by simpa using hy
      rcases hx' with rfl | rfl <;> rcases hy' with rfl | rfl <;> exact lt_app _ _ (by omega) h
/-- the words of a length that hold both -/
def fines (a b : List Nat) (n : Nat) : List (List Nat) := (words2 n).filter fun w => infixB a w && infixB b w
theorem fines_less {a b : List Nat} {n : Nat} (h : n < (holdL a b).length) : fines a b n = [] := by
  unfold fines
  rw [List.filter_eq_nil_iff]
  intro w hw hc
  rw [Bool.and_eq_true] at hc
  have := (holdL_least hc.1 hc.2).1
  have := ((words2_mem n w).mp hw).1
  omega
theorem fines_at {a b : List Nat} (h : ∀ c ∈ holdL a b, c = 97 ∨ c = 98) : ∃ r, fines a b (holdL a b).length = holdL a b :: r := by
  have hm : holdL a b ∈ fines a b (holdL a b).length := List.mem_filter.mpr ⟨(words2_mem _ _).mpr ⟨rfl, h⟩, by
    rw [Bool.and_eq_true]
    exact holdL_has a b⟩
  have hs : (fines a b (holdL a b).length).Pairwise (· < ·) := (words2_sorted _).filter _
  cases e : fines a b (holdL a b).length with
  | nil =>
    rw [e] at hm
    cases hm
  | cons x r =>
    rw [e] at hm hs
    rcases List.mem_cons.mp hm with z | z
    · exact ⟨r, by rw [← z]⟩
    · exfalso
      have hlt := (List.pairwise_cons.mp hs).1 _ z
      have hx : x ∈ fines a b (holdL a b).length := by
        rw [e]
        exact List.mem_cons_self
      obtain ⟨m1, m2⟩ := List.mem_filter.mp hx
      rw [Bool.and_eq_true] at m2
      exact (holdL_least m2.1 m2.2).2 ((words2_mem _ _).mp m1).1 hlt
theorem holdL_letters {a b : List Nat} {P : Nat → Prop} (ha : ∀ c ∈ a, P c) (hb : ∀ c ∈ b, P c) : ∀ c ∈ holdL a b, P c := by
  have hm : ∀ x y : List Nat, (∀ c ∈ x, P c) → (∀ c ∈ y, P c) → ∀ c ∈ merge x y, P c := fun x y hx hy c hc => by
    rcases List.mem_append.mp hc with h | h
    · exact hx c h
    · exact hy c (List.mem_of_mem_drop h)
  unfold holdL
  split
  · split
    · exact hb
    · exact ha
  · split
    · exact hm b a hb ha
    · exact hm a b ha hb
theorem holdL_len (a b : List Nat) : (holdL a b).length ≤ a.length + b.length := by
  have := merge_len a b
  have := merge_len b a
  unfold holdL
  split
  · split <;> omega
  · split <;> omega
end RD

/-! Words that hold two words, by both orders; sorted words. -/
namespace RD
open PySem L2
abbrev leW (x y : List Nat) : Bool := decide (x ≤ y)
theorem leData_S (x y : List Nat) : leData (S x) (S y) = leW x y := by
  have h := congrFun (congrFun (PySem.W.dataLe_str (β := List Nat) (fun l => St l)) x) y
  exact h
theorem depth_S : ∀ L : List (List Nat), PyData.depthAll (L.map S) = 0
  | [] => by simp [PyData.depthAll]
  | l :: L => by simp [PyData.depthAll, PyData.depth, depth_S L]
theorem sort_words {L : List (List Nat)} (h : L.length ≤ 100000) : sortF [.list (L.map S)] = some (.list ((L.mergeSort leW).map S)) := by
  have e1 : allAlike (L.map S) = true := by
    unfold allAlike
    simp only [Bool.and_eq_true, List.all_eq_true, List.mem_map, forall_exists_index, and_imp, forall_apply_eq_imp_iff₂, decide_eq_true_eq]
    refine ⟨⟨fun x _ y _ => rfl, fun _ _ => trivial⟩, ?_⟩
    rw [depth_S]
    decide
  have e2 : sortKind (L.map S) = true := by
    unfold sortKind
    rw [Bool.or_eq_true]
    right
    simp [List.all_eq_true]
  simp only [sortF]
  rw [if_pos ⟨e1, e2, by simpa using le_line h⟩]
  congr 2
  exact (List.map_mergeSort (r := leW) (s := leData) (f := S) fun x _ y _ => (leData_S x y).symm).symm
theorem sort_one (x : List Nat) : [x].mergeSort leW = [x] := by simp
theorem sort_two (x y : List Nat) : [x, y].mergeSort leW = if leW x y = true then [x, y] else [y, x] := by
  simp [List.mergeSort, List.MergeSort.Internal.splitInTwo, List.merge]
theorem hold_in {a b : List Nat} (h : infixB a b = true) : holdL a b = b := by
  unfold holdL
  rw [if_pos (.inl h)]
  have := infixB_len h
  by_cases e : pairLt a b = true
  · rw [if_pos e]
  · rw [if_neg e]
    unfold pairLt at e
    rw [decide_eq_true_eq] at e
    have : a.length = b.length := by
      rcases Nat.lt_or_ge a.length b.length with z | z
      · exact absurd (.inl z) e
      · omega
    exact infixB_eq h this
theorem hold_in2 {a b : List Nat} (h : infixB b a = true) : holdL a b = a := by
  rw [← holdL_comm]
  exact hold_in h
theorem hold_none {a b : List Nat} (h1 : infixB a b = false) (h2 : infixB b a = false) : holdL a b = if pairLt (merge b a) (merge a b) = true then merge b a else merge a b := by
  unfold holdL
  rw [h1, h2, if_neg (by simp)]
theorem hold_first {a b : List Nat} (h1 : infixB a b = false) (h2 : infixB b a = false) : ∃ r, ([merge a b, merge b a].filter fun w => decide (w.length = min (merge a b).length (merge b a).length)).mergeSort leW = holdL a b :: r := by
  rw [hold_none h1 h2]
  rcases Nat.lt_trichotomy (merge a b).length (merge b a).length with h | h | h
  · have e : ¬ pairLt (merge b a) (merge a b) = true := by
      unfold pairLt
      rw [decide_eq_true_eq]
      rintro (z | ⟨z, _⟩) <;> omega
    rw [if_neg e, List.filter_cons_of_pos (by simp; omega), List.filter_cons_of_neg (by simp; omega)]
    exact ⟨[], sort_one _⟩
  · rw [List.filter_cons_of_pos (by simp; omega), List.filter_cons_of_pos (by simp; omega), List.filter_nil, sort_two]
    by_cases e : leW (merge a b) (merge b a) = true
    · rw [if_pos e, if_neg]
      · exact ⟨_, rfl⟩
      · unfold pairLt
        rw [decide_eq_true_eq]
        rintro (z | ⟨_, z⟩)
        · omega
        · exact (List.not_lt.mpr (of_decide_eq_true e)) z
    · rw [if_neg e, if_pos]
      · exact ⟨_, rfl⟩
      · unfold pairLt
        rw [decide_eq_true_eq]
        refine .inr ⟨h.symm, ?_⟩
        have : ¬ merge a b ≤ merge b a := fun z => e (decide_eq_true z)
        exact List.not_le.mp this
  · have e : pairLt (merge b a) (merge a b) = true := by
      unfold pairLt
      rw [decide_eq_true_eq]
      exact .inl h
    rw [if_pos e, List.filter_cons_of_neg (by simp; omega), List.filter_cons_of_pos (by simp; omega)]
    exact ⟨[], sort_one _⟩
theorem hold_short {a b : List Nat} (h1 : infixB a b = false) (h2 : infixB b a = false) : (holdL a b).length = min (merge a b).length (merge b a).length := by
  rw [hold_none h1 h2]
  by_cases e : pairLt (merge b a) (merge a b) = true
  · rw [if_pos e]
    unfold pairLt at e
    rw [decide_eq_true_eq] at e
    rcases e with z | ⟨z, _⟩ <;> omega
  · rw [if_neg e]
    unfold pairLt at e
    rw [decide_eq_true_eq] at e
    have : ¬ (merge b a).length < (merge a b).length := fun z => e (.inl z)
    omega
end RD

/-! Where a word stands in another one. -/
namespace RD
open PySem L2
def placeB (a b : List Nat) : PyData → Bool
  | .int i => decide ((a.take (i.toNat + b.length)).drop i.toNat = b)
  | _ => false
def placesD (a b : List Nat) : List PyData := (rng 0 (a.length : Int)).filter (placeB a b)
theorem places_lc {a b : List Nat} {i j k : Nat} {Q : List PyData → DS → Prop} {δ : DS} (ha : a.length ≤ 1000) (hb : b.length ≤ 1000) (hq : Q (placesD a b) δ) (h1 : ∀ x : PyData, (δ.set k (.d x))[i]? = some (.d (S a)) := by intro _; rfl) (h2 : ∀ x : PyData, (δ.set k (.d x))[j]? = some (.d (S b)) := by intro _; rfl)
    (h3 : ∀ x : PyData, (δ.set k (.d x))[k]? = some (.d x) := by intro _; rfl) (h4 : ∀ x : PyData, wipeD (δ.set k (.d x)) [k] = δ := by intro _; rfl) :
    wLcL (set1 k) [k] (wB (wOp eqD (wSl (wVar i) (wOS (wVar k)) (wOS (wOp addD (wVar k) (wCallF lenD (wCons (wVar j) wNil))))) (wVar j))) (wVar k) (rng 0 (a.length : Int)) δ [] Q := by
  refine lc_filter (placeB a b) (fun x => x) _ _ ?_ (by rw [rng_len]; simp; exact le_line (by omega)) (by rw [List.map_id', List.nil_append]; exact hq)
  intro x hx
  obtain ⟨n, rfl, n0, n1⟩ := rng_mem hx
  obtain ⟨m, rfl⟩ : ∃ m : Nat, n = m := ⟨n.toNat, by omega⟩
  refine ⟨_, rfl, fun P hP => ?_⟩
  refine u_B (u_op (u_sl ?_))
  refine var_d (h1 _) (u_OS ?_)
  refine var_d (h3 _) ⟨_, rfl, u_OS (u_op ?_)⟩
  refine var_d (h3 _) (u_call1 ?_)
  refine var_d (h2 _) ⟨_, len_S (by omega), _, rfl, _, rfl, _, sl_S (by omega), ?_⟩
  refine var_d (h2 _) ⟨_, eq_S _ _, _, rfl, ?_⟩
  rw [cut_at a (i := m) (j := m + b.length) rfl (by omega)]
  exact hP _ (h4 _) fun _ P' hP' => var_d (h3 _) (hP' _ (h4 _))
theorem ints_lay : ∀ L : List Int, PyData.canLayAll0 (L.map .int) = true
  | [] => by simp [PyData.canLayAll0]
  | i :: L => by simp [PyData.canLayAll0, PyData.canLay0, ints_lay L]
theorem ints_shaped (L : List Int) : SeqAt.shaped (.list (L.map .int)) = true := by
  simp [SeqAt.shaped, PyData.canLay0, PyData.depth, ints_lay L, PySem.W.depth_ints]
theorem rng_filter (n : Nat) (p : PyData → Bool) : (rng 0 (n : Int)).filter p = (((List.range n).filter fun (i : Nat) => p (.int (i : Int))).map fun (i : Nat) => (i : Int)).map .int := by
  unfold rng
  rw [List.filter_map, List.map_map]
  have e : ((n : Int) - 0).toNat = n := by omega
  rw [e]
  have f : (fun (k : Nat) => PyData.int (0 + (k : Int))) = fun (k : Nat) => PyData.int (k : Int) := by
    funext k
    congr 1
    omega
  rw [f]
  rfl
theorem places_shaped (a b : List Nat) : SeqAt.shaped (.list (placesD a b)) = true := by
  unfold placesD
  rw [rng_filter]
  exact ints_shaped _
theorem places_in {a b : List Nat} (hb : b ≠ []) : (!(placesD a b).isEmpty) = infixB b a := by
  rw [Bool.eq_iff_iff]
  unfold placesD infixB
  rw [rng_filter]
  simp only [Bool.not_eq_true', List.isEmpty_eq_false_iff, ne_eq, List.map_eq_nil_iff, List.filter_eq_nil_iff, List.mem_range, Classical.not_forall, List.any_eq_true, decide_eq_true_eq]
  constructor
  · rintro ⟨i, hi, h⟩
    have h : decide ((a.take ((i : Int).toNat + b.length)).drop (i : Int).toNat = b) = true := by simpa [placeB] using h
    have h := of_decide_eq_true h
    refine ⟨i, by omega, ?_⟩
    rw [List.drop_take, Int.toNat_natCast, show i + b.length - i = b.length by omega] at h
    exact h
  · rintro ⟨i, hi, h⟩
    have hi' : i < a.length := by
      rcases Nat.lt_or_ge i a.length with z | z
      · exact z
      · rw [List.drop_of_length_le z, List.take_nil] at h
        exact absurd h.symm hb
    refine ⟨i, hi', ?_⟩
    have : (a.take (i + b.length)).drop i = b := by
      rw [List.drop_take, show i + b.length - i = b.length by omega]
      exact h
    simpa [placeB] using this
theorem ne_bool (x y : Bool) : neD (.bool x) (.bool y) = some (.bool (!(x == y))) := by
  cases x <;> cases y <;> rfl
theorem ne_empty {x : PyData} {L : List PyData} (e : x = .list L) (h : SeqAt.shaped x = true) : neD x (.list []) = some (.bool (!L.isEmpty)) := by
  subst e
  have e : eqOk (.list L) (.list []) = true := by
    show (SeqAt.shaped (.list L) && SeqAt.shaped (.list [])) = true
    rw [h]
    rfl
  unfold neD
  rw [if_pos e]
  cases L with
  | nil => rfl
  | cons => rfl
end RD

/-! All parts of a word, each once, in order. -/
namespace RD
open PySem L2
def addW (L : List (List Nat)) (w : List Nat) : List (List Nat) := if w ∈ L then L else L ++ [w]
def uniq (ws : List (List Nat)) : List (List Nat) := ws.foldl addW []
/-- the parts that begin at a place -/
def facsAt (a : List Nat) (i : Nat) : List (List Nat) := (List.range (a.length - i)).map fun k => (a.take (i + 1 + k)).drop i
def facs (a : List Nat) : List (List Nat) := (List.range a.length).flatMap (facsAt a)
def partsL (a : List Nat) : List (List Nat) := (uniq (facs a)).mergeSort leW
def keysOf (L : List (List Nat)) : List Key := L.map fun w => Sum.inr (St w)
theorem key_mem {L : List (List Nat)} {w : List Nat} : (Sum.inr (St w) : Key) ∈ keysOf L ↔ w ∈ L := by
  unfold keysOf
  rw [List.mem_map]
  constructor
  · rintro ⟨v, hv, e⟩
    have : v = w := St_inj.mp (Sum.inr.inj e)
    rw [← this]
    exact hv
  · intro h
    exact ⟨w, h, rfl⟩
theorem putK_keys {ks : List (Key × V)} {L : List (List Nat)} {w : List Nat} {v : V} (h : ks.map (·.1) = keysOf L) : (putK ks (Sum.inr (St w)) v).map (·.1) = keysOf (addW L w) := by
  unfold putK addW
  have e : (ks.any fun kv => decide (kv.1 = Sum.inr (St w))) = decide (w ∈ L) := by
    rw [Bool.eq_iff_iff, List.any_eq_true, decide_eq_true_eq, ← key_mem, ← h, List.mem_map]
    constructor
    · rintro ⟨x, hx, e⟩
      exact ⟨x, hx, of_decide_eq_true e⟩
    · rintro ⟨x, hx, e⟩
      exact ⟨x, hx, decide_eq_true e⟩
  rw [e]
  by_cases hw : w ∈ L
  · rw [if_pos (decide_eq_true hw), if_pos hw, List.map_map, ← h]
    apply List.map_congr_left
    intro x _
    show (if x.1 = Sum.inr (St w) then (x.1, v) else x).1 = x.1
    split <;> rfl
  · rw [if_neg (by simpa using hw), if_neg hw, List.map_append, h]
    simp [keysOf]
theorem putK_len {ks : List (Key × V)} {k : Key} {v : V} : (putK ks k v).length ≤ ks.length + 1 := by
  unfold putK
  split
  · simp
  · simp
theorem leS_St (x y : List Nat) : leS (St x) (St y) = leW x y := by
  have h := congrFun (congrFun (PySem.W.dataLe_str (β := List Nat) (fun l => St l)) x) y
  exact h
theorem sort_keys (L : List (List Nat)) : ((L.map St).mergeSort leS).map PyData.str = (L.mergeSort leW).map S := by
  rw [← List.map_mergeSort (r := leW) (s := leS) (f := St) fun x _ y _ => (leS_St x y).symm, List.map_map]
  rfl
end RD

/-! The data layer, part o: one step at a time; comprehensions and loops over typed items; typed equality. -/
namespace RD
open PySem L2
section
variable {f : PyData → PyData → Option PyData} {g : PyData → Option PyData} {wa wb wc w : WE} {wr : WA} {δ : DS} {Q : PyData → DS → Prop} {R : Bool → DS → Prop} {QA : List PyData → DS → Prop} {QN : OK → DS → Prop} {E : XC} {D : WEnds} {x : PyData} {s1 s2 t : WS} {t1 t2 : WT} {i j : Nat} {set : PyData → DS → Option DS} {wi : WI} {is : List Nat} {wn : WN} {T : PT}
theorem u_var (h : ∃ x, δ[i]? = some (SD.d x) ∧ Q x δ) : wVar i δ Q E := by
  obtain ⟨x, h1, h2⟩ := h
  exact var_d h1 h2
theorem u_varO (h : ∃ xs, δ[i]? = some (SD.own (.lst xs)) ∧ Q (.list xs) (δ.set i (.d (.list xs)))) : wVar i δ Q E := by
  obtain ⟨x, h1, h2⟩ := h
  unfold wVar
  rw [h1]
  exact h2
theorem u_C (h : Q x δ) : wC x δ Q E := h
theorem u_un (h : wa δ (fun x δ1 => ∃ z, g x = some z ∧ Q z δ1) E) : wUn g wa δ Q E := h
theorem u_notV (h : wa δ (fun x δ1 => ∃ c, x = .bool c ∧ Q (.bool (!c)) δ1) E) : wNotV wa δ Q E := h
theorem u_andV (h : wa δ (fun x δ1 => ∃ c, x = .bool c ∧ if c = true then wb δ1 Q E else Q (.bool false) δ1) E) : wAndV wa wb δ Q E := h
theorem u_orV (h : wa δ (fun x δ1 => ∃ c, x = .bool c ∧ if c = true then Q (.bool true) δ1 else wb δ1 Q E) E) : wOrV wa wb δ Q E := h
theorem u_ifE (h : t1 δ (fun c δ1 => if c = true then wa δ1 Q E else wb δ1 Q E) E) : wIf t1 wa wb δ Q E := h
theorem u_and (h : t1 δ (fun c δ1 => if c = true then t2 δ1 R E else R false δ1) E) : wAnd t1 t2 δ R E := h
theorem u_or (h : t1 δ (fun c δ1 => if c = true then R true δ1 else t2 δ1 R E) E) : wOr t1 t2 δ R E := h
theorem u_not (h : t1 δ (fun c δ1 => R (!c) δ1) E) : wNot t1 δ R E := h
theorem u_yes (h : R true δ) : wYes δ R E := h
theorem u_ON {Q : Option Int → DS → Prop} (h : Q none δ) : wON δ Q E := h
theorem u_ixv (h : ∃ L, seqAt δ i = some L ∧ wb δ (fun y δ1 => seqAt δ1 i = some L ∧ ∃ z, ixD L y = some z ∧ Q z δ1) E) : wIxV i wb δ Q E := h
theorem u_tup (h : wr δ (fun xs δ' => xs.length ≤ sizeLine ∧ Q (.tuple xs) δ') E) : wTup wr δ Q E := h
theorem u_lst (h : wr δ (fun xs δ' => xs.length ≤ sizeLine ∧ QN (.lst xs) δ') E) : wLstN wr δ QN E := h
theorem u_fz (h : wn δ (fun k δ' => ∃ xs, k = .lst xs ∧ Q (.list xs) δ') E) : wFz wn δ Q E := h
theorem u_lc {we : WE} {wt : WT} (h : wi δ (fun items δ' => wLcL set is wt we items (wipeD δ' is) [] (fun acc δ2 => QN (.lst acc) (restoreD δ2 δ' is))) E) : wLc wi set is wt we δ QN E := h
theorem u_callF {F : List PyData → Option PyData} (h : wr δ (fun xs δ' => ∃ z, F xs = some z ∧ Q z δ') E) : wCallF F wr δ Q E := h
theorem u_call (h : wr δ (fun ds δ' => T ds (fun d => Q d δ') (fun c => E c δ')) E) : wCall T wr δ Q E := h
theorem u_tab {Ts : List PT} (h : wb δ (fun y δ1 => ∃ (j : Nat) (T : PT), y = .int (j : Nat) ∧ Ts[j]? = some T ∧ wr δ1 (fun ds δ2 => T ds (fun d => Q d δ2) (fun c => E c δ2)) E) E) : wTab Ts wb wr δ Q E := h
theorem u_join (h : wa δ (fun x δ1 => (∃ t, x = .str t) ∧ wb δ1 (fun y δ2 => ∃ z, joinF x y = some z ∧ Q z δ2) E) E) : wJoin wa wb δ Q E := h
theorem u_peek (h : w (δ.map peekS) (fun x _ => flatD x = true ∧ Q x δ) (fun c _ => E c δ)) : wPeek w δ Q E := h
theorem u_peekT (h : t1 (δ.map peekS) (fun b _ => R b δ) (fun c _ => E c δ)) : wPeekT t1 δ R E := h
theorem u_nil (h : QA [] δ) : wNil δ QA E := h
theorem u_iterL (h : w δ (fun x δ' => ∃ ds, x = .list ds ∧ QA ds δ') E) : wIterL w δ QA E := h
theorem u_iterT (h : w δ (fun x δ' => ∃ ds, x = .tuple ds ∧ QA ds δ') E) : wIterT w δ QA E := h
theorem u_iterS (h : w δ (fun x δ' => ∃ z, x = .str z ∧ QA (chrs z) δ') E) : wIterS w δ QA E := h
theorem u_rng1 (h : wr δ (fun xs δ' => ∃ j, xs = [.int j] ∧ fit62 j ∧ QA (rng 0 j) δ') E) : wRng1 wr δ QA E := h
theorem u_rng2 (h : wr δ (fun xs δ' => ∃ i j, xs = [.int i, .int j] ∧ fit62 i ∧ fit62 j ∧ QA (rng i j) δ') E) : wRng2 wr δ QA E := h
theorem u_rng3 (h : wr δ (fun xs δ' => ∃ i j, xs = [.int i, .int j, .int (-1)] ∧ fit62 i ∧ fit62 j ∧ QA (rngDown i j) δ') E) : wRng3 wr δ QA E := h
theorem u_set (h : w δ (fun x δ' => D.nx (δ'.set i (.d x))) D.ex) : wSet i w δ D := h
theorem u_setN (h : wn δ (fun k δ' => D.nx (δ'.set i (.own k))) D.ex) : wSetN i wn δ D := h
theorem u_ret (h : w δ (fun x δ' => D.rt x δ') D.ex) : wRet w δ D := h
theorem s_ret (h : w δ (fun x δ' => D.rt x δ') D.ex) : wSeq (wRet w) t δ D := h
theorem u_drop (h : w δ (fun _ δ' => D.nx δ') D.ex) : wDrop w δ D := h
theorem s_drop (h : w δ (fun _ δ' => t δ' D) D.ex) : wSeq (wDrop w) t δ D := h
theorem u_next (h : D.nx δ) : wNext δ D := h
theorem u_for (h : wi δ (fun items δ' => wForL set s1 items δ' D) D.ex) : wFor wi set s1 δ D := h
theorem u_app (h : (∃ xs, δ[i]? = some (.own (.lst xs))) ∧ w δ (fun x δ' => ∃ xs, δ'[i]? = some (.own (.lst xs)) ∧ xs.length < sizeLine ∧ D.nx (δ'.set i (.own (.lst (xs ++ [x]))))) D.ex) : wApp i w δ D := h
theorem s_app (h : (∃ xs, δ[i]? = some (.own (.lst xs))) ∧ w δ (fun x δ' => ∃ xs, δ'[i]? = some (.own (.lst xs)) ∧ xs.length < sizeLine ∧ t (δ'.set i (.own (.lst (xs ++ [x])))) D) D.ex) : wSeq (wApp i w) t δ D := h
theorem u_ext (h : (∃ xs, δ[i]? = some (.own (.lst xs))) ∧ w δ (fun x δ' => ∃ xs ys, δ'[i]? = some (.own (.lst xs)) ∧ x = .list ys ∧ xs.length + ys.length ≤ sizeLine ∧ D.nx (δ'.set i (.own (.lst (xs ++ ys))))) D.ex) : wExt i w δ D := h
theorem s_ext (h : (∃ xs, δ[i]? = some (.own (.lst xs))) ∧ w δ (fun x δ' => ∃ xs ys, δ'[i]? = some (.own (.lst xs)) ∧ x = .list ys ∧ xs.length + ys.length ≤ sizeLine ∧ t (δ'.set i (.own (.lst (xs ++ ys)))) D) D.ex) : wSeq (wExt i w) t δ D := h
theorem u_par (h : wr δ (fun xs δ' => ∃ x y, xs = [x, y] ∧ D.nx ((δ'.set i (.d x)).set j (.d y))) D.ex) : wPar i j wr δ D := h
theorem s_par (h : wr δ (fun xs δ' => ∃ x y, xs = [x, y] ∧ t ((δ'.set i (.d x)).set j (.d y)) D) D.ex) : wSeq (wPar i j wr) t δ D := h
theorem u_asgT (h : w δ (fun x δ' => ∃ δ2, set x δ' = some δ2 ∧ D.nx δ2) D.ex) : wAsgT set w δ D := h
theorem s_asgT (h : w δ (fun x δ' => ∃ δ2, set x δ' = some δ2 ∧ t δ2 D) D.ex) : wSeq (wAsgT set w) t δ D := h
theorem u_aug (h : ∃ x, δ[i]? = some (.d x) ∧ w δ (fun y δ' => ∃ z, f x y = some z ∧ D.nx (δ'.set i (.d z))) D.ex) : wAug i f w δ D := h
theorem s_aug (h : ∃ x, δ[i]? = some (.d x) ∧ w δ (fun y δ' => ∃ z, f x y = some z ∧ t (δ'.set i (.d z)) D) D.ex) : wSeq (wAug i f w) t δ D := h
theorem u_try {kind : Addr → Int → Prop} (h : s1 δ (exT i kind D)) : wTry i kind s1 δ D := h
theorem s_while (h : wWhile t1 s1 δ { D with nx := fun δ' => t δ' D }) : wSeq (wWhile t1 s1) t δ D := h
theorem u_raise {c : Value} (h : D.ex c δ) : wRaise c δ D := h
theorem s_raise {c : Value} (h : D.ex c δ) : wSeq (wRaise c) t δ D := h
theorem u_callT {T : PTT} (h : (∃ ns, δ[i]? = some (.scr ns)) ∧ (∃ k zs, δ[j]? = some (.own k) ∧ twn? k = some zs) ∧ wr δ (fun ds δ' => ∃ ns k zs, δ'[i]? = some (.scr ns) ∧ δ'[j]? = some (.own k) ∧ twn? k = some zs ∧ T ns zs ds (fun d zs' => Q d (δ'.set j (.own (twnSet k zs'))))) E) : wCallT i j T wr δ Q E := h
end
/-! closers -/
section
variable {P : PyData → Prop} {PB : Bool → Prop} {PI : Int → Prop} {PL : List PyData → Prop} {z : PyData}
theorem exs {α : Type} {P : α → Prop} {e : Option α} {z : α} (h : e = some z) (q : P z) : ∃ z, e = some z ∧ P z := ⟨z, h, q⟩
theorem exD {δ : DS} {i : Nat} {x : PyData} {P : PyData → Prop} (h : δ[i]? = some (SD.d x)) (q : P x) : ∃ x, δ[i]? = some (SD.d x) ∧ P x := ⟨x, h, q⟩
theorem exW {δ : DS} {i : Nat} {x : List PyData} {P : List PyData → Prop} (h : δ[i]? = some (SD.own (.lst x))) (q : P x) : ∃ x, δ[i]? = some (SD.own (.lst x)) ∧ P x := ⟨x, h, q⟩
theorem eqA {α : Type} {x y : α} {A : Prop} (h : x = y) (q : A) : x = y ∧ A := ⟨h, q⟩
theorem exOwn {e : Option SD} {xs : List PyData} {A : Prop} (h : e = some (.own (.lst xs))) (q : A) : (∃ xs, e = some (.own (.lst xs))) ∧ A := ⟨⟨xs, h⟩, q⟩
theorem exApp {e : Option SD} {xs : List PyData} {P : List PyData → Prop} (h : e = some (.own (.lst xs))) (hl : xs.length < 100000) (q : P xs) : ∃ xs, e = some (.own (.lst xs)) ∧ xs.length < sizeLine ∧ P xs := ⟨xs, h, lt_line hl, q⟩
theorem exExt {e : Option SD} {xs zs : List PyData} {P : List PyData → List PyData → Prop} (h : e = some (.own (.lst xs))) (hl : xs.length + zs.length ≤ 100000) (q : P xs zs) : ∃ xs ys, e = some (.own (.lst xs)) ∧ PyData.list zs = .list ys ∧ xs.length + ys.length ≤ sizeLine ∧ P xs ys := ⟨xs, zs, h, rfl, le_line hl, q⟩
theorem ex2 {x y : PyData} {P : PyData → PyData → Prop} (q : P x y) : ∃ x' y', [x, y] = [x', y'] ∧ P x' y' := ⟨x, y, rfl, q⟩
theorem iteT' {b : Bool} {A B : Prop} (h : b = true) (q : A) : if b = true then A else B := by
  rw [if_pos h]
  exact q
theorem iteF' {b : Bool} {A B : Prop} (h : b = false) (q : B) : if b = true then A else B := by
  rw [h]
  exact iteF q
theorem exs0 {α : Type} {P : α → Prop} {e : Option α} (h : ∃ z, e = some z ∧ P z) : ∃ z, e = some z ∧ P z := h
theorem exD0 {e : Option SD} {P : PyData → Prop} (h : ∃ x, e = some (SD.d x) ∧ P x) : ∃ x, e = some (SD.d x) ∧ P x := h
theorem eqA0 {α : Type} {x y : α} {A : Prop} (h : x = y ∧ A) : x = y ∧ A := h
theorem exOwn0 {e : Option SD} {A : Prop} (h : (∃ xs, e = some (.own (.lst xs))) ∧ A) : (∃ xs, e = some (.own (.lst xs))) ∧ A := h
theorem exApp0 {e : Option SD} {P : List PyData → Prop} (h : ∃ xs, e = some (.own (.lst xs)) ∧ xs.length < sizeLine ∧ P xs) : ∃ xs, e = some (.own (.lst xs)) ∧ xs.length < sizeLine ∧ P xs := h
theorem exExt0 {e : Option SD} {zs : List PyData} {P : List PyData → List PyData → Prop} (h : ∃ xs ys, e = some (.own (.lst xs)) ∧ PyData.list zs = .list ys ∧ xs.length + ys.length ≤ sizeLine ∧ P xs ys) : ∃ xs ys, e = some (.own (.lst xs)) ∧ PyData.list zs = .list ys ∧ xs.length + ys.length ≤ sizeLine ∧ P xs ys := h
theorem ite0 {b : Bool} {A B : Prop} (h : if b = true then A else B) : if b = true then A else B := h
theorem exB {b : Bool} (q : PB b) : ∃ k, PyData.bool b = .bool k ∧ PB k := ⟨b, rfl, q⟩
theorem exI {i : Int} (q : PI i) : ∃ k, PyData.int i = .int k ∧ PI k := ⟨i, rfl, q⟩
theorem exL {xs : List PyData} (q : PL xs) : ∃ k, PyData.list xs = .list k ∧ PL k := ⟨xs, rfl, q⟩
theorem exT' {xs : List PyData} (q : PL xs) : ∃ k, PyData.tuple xs = .tuple k ∧ PL k := ⟨xs, rfl, q⟩
theorem exO {xs : List PyData} (q : PL xs) : ∃ k, OK.lst xs = .lst k ∧ PL k := ⟨xs, rfl, q⟩
theorem exS {s : Str} {PS : Str → Prop} (q : PS s) : ∃ k, PyData.str s = .str k ∧ PS k := ⟨s, rfl, q⟩
theorem exSt {s : Str} {A : Prop} (q : A) : (∃ t, PyData.str s = .str t) ∧ A := ⟨⟨s, rfl⟩, q⟩
theorem e_rng1 {P : Int → Prop} {j : Int} (h : fit62 j) (q : P j) : ∃ k, [PyData.int j] = [.int k] ∧ fit62 k ∧ P k := ⟨j, rfl, h, q⟩
theorem e_rng2 {P : Int → Int → Prop} {i j : Int} (h : fit62 i) (h' : fit62 j) (q : P i j) : ∃ i' j', [PyData.int i, PyData.int j] = [.int i', .int j'] ∧ fit62 i' ∧ fit62 j' ∧ P i' j' := ⟨i, j, rfl, h, h', q⟩
theorem e_rng3 {P : Int → Int → Prop} {i j : Int} (h : fit62 i) (h' : fit62 j) (q : P i j) : ∃ i' j', [PyData.int i, PyData.int j, PyData.int (-1)] = [.int i', .int j', .int (-1)] ∧ fit62 i' ∧ fit62 j' ∧ P i' j' := ⟨i, j, rfl, h, h', q⟩
theorem fit_mk {i : Int} (h0 : -1000000 ≤ i) (h1 : i ≤ 1000000) : fit62 i := ⟨by omega, by omega⟩
theorem ln {n : Nat} {A : Prop} (h : Nat.ble n 100000 = true) (q : A) : n ≤ sizeLine ∧ A := ⟨le_line (Nat.le_of_ble_eq_true h), q⟩
theorem lnw {n : Nat} {A : Prop} (h : n ≤ 100000) (q : A) : n ≤ sizeLine ∧ A := ⟨le_line h, q⟩
theorem lnlt {n : Nat} {A : Prop} (h : n < 100000) (q : A) : n < sizeLine ∧ A := ⟨lt_line h, q⟩
end
/-! slices by whole numbers -/
theorem sl_from {l : List Nat} {k : Int} (h : l.length ≤ 100000) (h0 : 0 ≤ k) : slD (S l) (some k) none = some (S (l.drop k.toNat)) := by
  rw [sl_S h, cut_from l (j := k.toNat) (by omega)]
theorem sl_to {l : List Nat} {k : Int} (h : l.length ≤ 100000) (h0 : 0 ≤ k) : slD (S l) none (some k) = some (S (l.take k.toNat)) := by
  rw [sl_S h, cut_to l (j := k.toNat) (by omega)]
theorem sl_at {l : List Nat} {i j : Int} (h : l.length ≤ 100000) (h0 : 0 ≤ i) (h1 : 0 ≤ j) : slD (S l) (some i) (some j) = some (S ((l.take j.toNat).drop i.toNat)) := by
  rw [sl_S h, cut_at l (i := i.toNat) (j := j.toNat) (by omega) (by omega)]
theorem eq_int' (i j : Int) : eqD (.int i) (.int j) = some (.bool (decide (i = j))) := by
  show some (PyData.bool (PyData.eqv (.int i) (.int j))) = _
  rw [eqv_I]
theorem ne_int' (i j : Int) : neD (.int i) (.int j) = some (.bool (!decide (i = j))) := by
  show some (PyData.bool (!PyData.eqv (.int i) (.int j))) = _
  rw [eqv_I]
theorem eq_empty (b : List Nat) : eqD (S b) (.str "") = some (.bool (decide (b = []))) := by
  rw [empty_St]
  exact eq_S b []
theorem ne_empty' (b : List Nat) : neD (S b) (.str "") = some (.bool (!decide (b = []))) := by
  rw [empty_St]
  exact ne_S b []
theorem at_S {a : List Nat} {t : Int} (h0 : 0 ≤ t) (h1 : t < a.length) (ha : a.length ≤ 100000) : ixD (S a) (.int t) = some (S [a.getD t.toNat 0]) := by
  have hi : t.toNat < a.length := by omega
  simp only [ixD, St_len]
  rw [if_pos (le_line ha)]
  simp only [atI, ixN]
  rw [if_pos h0, if_pos (by simpa using h1)]
  simp [hi, St]
theorem rev_S {l : List Nat} (h : l.length ≤ 100000) : revS (S l) = some (S l.reverse) := by
  simp [revS, backS, St, Str.length, le_line h]
/-! ### comprehensions over typed items -/
theorem lc_ty {α : Type} {set : PyData → DS → Option DS} {is : List Nat} {wt : WT} {we : WE} {Q : List PyData → DS → Prop} {δ : DS} (g : α → PyData) (p : α → Bool) (f : α → PyData) : ∀ (L : List α) (acc : List PyData), acc.length + L.length ≤ sizeLine →
    (∀ x ∈ L, ∃ δ1, set (g x) δ = some δ1 ∧ wipeD δ1 is = δ ∧ (∀ P : Bool → DS → Prop, P (p x) δ1 → wt δ1 P noX) ∧ (p x = true → ∀ P : PyData → DS → Prop, P (f x) δ1 → we δ1 P noX)) →
    Q (acc ++ (L.filter p).map f) δ → wLcL set is wt we (L.map g) δ acc Q
  | [], acc, _, _, q => by
    show Q acc δ
    simpa using q
  | x :: xs, acc, hl, h, q => by
    obtain ⟨δ1, e1, e2, h1, h2⟩ := h x List.mem_cons_self
    refine ⟨δ1, e1, h1 _ ?_⟩
    by_cases hp : p x = true
    · rw [if_pos hp]
      refine h2 hp _ ⟨by simp at hl; omega, ?_⟩
      rw [e2]
      refine lc_ty g p f xs (acc ++ [f x]) (by simp at hl ⊢; omega) (fun y hy => h y (List.mem_cons_of_mem _ hy)) ?_
      rw [List.filter_cons_of_pos hp] at q
      simpa using q
    · rw [if_neg hp, e2]
      refine lc_ty g p f xs acc (by simp at hl ⊢; omega) (fun y hy => h y (List.mem_cons_of_mem _ hy)) ?_
      rw [List.filter_cons_of_neg hp] at q
      exact q
/-- with a test -/
theorem lcF {α : Type} {set : PyData → DS → Option DS} {is : List Nat} {wt : WT} {we : WE} {Q : List PyData → DS → Prop} {δ : DS} {g : α → PyData} {L : List α} (p : α → Bool) (f : α → PyData) (hl : L.length ≤ 100000)
    (h : ∀ x ∈ L, ∃ δ1, set (g x) δ = some δ1 ∧ wipeD δ1 is = δ ∧ (∀ P : Bool → DS → Prop, P (p x) δ1 → wt δ1 P noX) ∧ (p x = true → ∀ P : PyData → DS → Prop, P (f x) δ1 → we δ1 P noX))
    (q : Q ((L.filter p).map f) δ) : wLcL set is wt we (L.map g) δ [] Q :=
  lc_ty g p f L [] (by simpa using le_line hl) h (by simpa using q)
/-- without one -/
theorem lcM {α : Type} {set : PyData → DS → Option DS} {is : List Nat} {we : WE} {Q : List PyData → DS → Prop} {δ : DS} {g : α → PyData} {L : List α} (f : α → PyData) (hl : L.length ≤ 100000)
    (h : ∀ x ∈ L, ∃ δ1, set (g x) δ = some δ1 ∧ wipeD δ1 is = δ ∧ (∀ P : PyData → DS → Prop, P (f x) δ1 → we δ1 P noX))
    (q : Q (L.map f) δ) : wLcL set is wYes we (L.map g) δ [] Q :=
  lc_ty g (fun _ => true) f L [] (by simpa using le_line hl) (fun x hx => by
    obtain ⟨δ1, e1, e2, h1⟩ := h x hx
    exact ⟨δ1, e1, e2, fun P hP => hP, fun _ => h1⟩) (by rw [List.filter_eq_self.mpr (fun _ _ => rfl)]; exact q)
/-! ### loops over typed items -/
theorem for_fold {α β : Type} {set : PyData → DS → Option DS} {body : WS} {D : WEnds} {g : α → PyData} (step : β → α → β) (I : β → DS → Prop) :
    ∀ (L : List α) (b : β) (δ : DS), I b δ → (∀ δ, I (L.foldl step b) δ → D.nx δ) →
    (∀ x ∈ L, ∀ b δ, I b δ → ∀ xs : List α, (∀ δ', I (step b x) δ' → wForL set body (xs.map g) δ' D) → ∃ δ1, set (g x) δ = some δ1 ∧ body δ1 { D with nx := fun δ' => wForL set body (xs.map g) δ' D, ct := fun δ' => wForL set body (xs.map g) δ' D, bk := D.nx }) →
    wForL set body (L.map g) δ D
  | [], b, δ, hi, h0, _ => h0 δ hi
  | x :: xs, b, δ, hi, h0, hs => hs x List.mem_cons_self b δ hi xs fun δ' hi' => for_fold step I xs (step b x) δ' hi' h0 fun y hy => hs y (List.mem_cons_of_mem _ hy)
/-- a loop that keeps something -/
theorem for_keep {α : Type} {set : PyData → DS → Option DS} {body : WS} {D : WEnds} {g : α → PyData} (I : DS → Prop) (L : List α) (δ : DS) (hi : I δ) (h0 : ∀ δ, I δ → D.nx δ)
    (hs : ∀ x ∈ L, ∀ δ, I δ → ∀ xs : List α, (∀ δ', I δ' → wForL set body (xs.map g) δ' D) → ∃ δ1, set (g x) δ = some δ1 ∧ body δ1 { D with nx := fun δ' => wForL set body (xs.map g) δ' D, ct := fun δ' => wForL set body (xs.map g) δ' D, bk := D.nx }) :
    wForL set body (L.map g) δ D :=
  for_fold (β := Unit) (fun _ _ => ()) (fun _ => I) L () δ hi h0 fun x hx _ δ h xs k => hs x hx δ h xs k
theorem rng_nat (n : Nat) : rng 0 (n : Int) = (List.range n).map fun k : Nat => PyData.int (k : Int) := by
  unfold rng
  simp
theorem rng_at (i j : Nat) : rng (i : Int) (j : Int) = (List.range' i (j - i)).map fun k : Nat => PyData.int (k : Int) := by
  unfold rng
  rw [List.range'_eq_map_range, List.map_map, show ((j : Int) - (i : Int)).toNat = j - i by omega]
  apply List.map_congr_left
  intro k _
  simp
theorem rng_of (i j : Nat) {x y : Int} (hx : x = (i : Int)) (hy : y = (j : Int)) : rng x y = (List.range' i (j - i)).map fun k : Nat => PyData.int (k : Int) := by
  rw [hx, hy, rng_at]
theorem rng0_of {j : Nat} {y : Int} (hy : y = (j : Int)) : rng 0 y = (List.range j).map fun k : Nat => PyData.int (k : Int) := by
  rw [hy, rng_nat]
/-! ### typed equality -/
structure Cod {α : Type} (e : α → PyData) (ok : α → Prop) (n : Nat) : Prop where
  lay : ∀ x, ok x → PyData.canLay0 (e x) = true
  dep : ∀ x, ok x → (e x).depth ≤ n
  eqv : ∀ x y, PyData.eqv (e x) (e y) = true ↔ x = y
theorem cod_int : Cod PyData.int (fun _ => True) 0 := ⟨fun _ _ => rfl, fun _ _ => by simp [PyData.depth], fun x y => by rw [eqv_I]; simp⟩
theorem cod_bool : Cod PyData.bool (fun _ => True) 0 := ⟨fun _ _ => rfl, fun _ _ => by simp [PyData.depth], fun x y => by cases x <;> cases y <;> simp [PyData.eqv]⟩
theorem cod_nat : Cod (fun k : Nat => PyData.int (k : Int)) (fun _ => True) 0 := ⟨fun _ _ => rfl, fun _ _ => by simp [PyData.depth], fun x y => by rw [eqv_I]; simp; omega⟩
def cpW (l : List Nat) : Prop := ∀ c ∈ l, c < 1114112
theorem cod_word : Cod S cpW 0 := ⟨fun x h => by simpa [PyData.canLay0, PyData.strOk, St] using (show ∀ c ∈ x, c < 1114112 from h), fun _ _ => by simp [PyData.depth], fun x y => by rw [eqv_S]; simp⟩
theorem cod_list {α : Type} {e : α → PyData} {ok : α → Prop} {n : Nat} (h : Cod e ok n) : Cod (fun L : List α => .list (L.map e)) (fun L => ∀ x ∈ L, ok x) (n + 1) := by
  refine ⟨fun L hL => ?_, fun L hL => ?_, fun L M => ?_⟩
  · simp only [PyData.canLay0]
    induction L with
    | nil => simp [PyData.canLayAll0]
    | cons x L ih =>
      simp only [List.map_cons, PyData.canLayAll0, Bool.and_eq_true]
      exact ⟨h.lay x (hL x List.mem_cons_self), ih fun y hy => hL y (List.mem_cons_of_mem _ hy)⟩
  · simp only [PyData.depth]
    have : PyData.depthAll (L.map e) ≤ n := by
      induction L with
      | nil => simp [PyData.depthAll]
      | cons x L ih =>
        simp only [List.map_cons, PyData.depthAll]
        have h1 := h.dep x (hL x List.mem_cons_self)
        have h2 := ih fun y hy => hL y (List.mem_cons_of_mem _ hy)
        omega
    omega
  · simp only [PyData.eqv]
    induction L generalizing M with
    | nil => cases M <;> simp [PyData.eqvAll]
    | cons x L ih =>
      cases M with
      | nil => simp [PyData.eqvAll]
      | cons y M => simp [PyData.eqvAll, h.eqv, ih]
theorem cod_two {α β : Type} {e : α → PyData} {e' : β → PyData} {ok : α → Prop} {ok' : β → Prop} {n : Nat} (h : Cod e ok n) (h' : Cod e' ok' n) : Cod (fun p : α × β => .tuple [e p.1, e' p.2]) (fun p => ok p.1 ∧ ok' p.2) (n + 1) := by
  refine ⟨fun p hp => ?_, fun p hp => ?_, fun p q => ?_⟩
  · simp [PyData.canLay0, PyData.canLayAll0, h.lay _ hp.1, h'.lay _ hp.2]
  · simp only [PyData.depth, PyData.depthAll]
    have h1 := h.dep _ hp.1
    have h2 := h'.dep _ hp.2
    omega
  · obtain ⟨p1, p2⟩ := p
    obtain ⟨q1, q2⟩ := q
    simp [PyData.eqv, PyData.eqvAll, h.eqv, h'.eqv]
theorem cod_three {α β γ : Type} {e : α → PyData} {e' : β → PyData} {e2 : γ → PyData} {ok : α → Prop} {ok' : β → Prop} {ok2 : γ → Prop} {n : Nat} (h : Cod e ok n) (h' : Cod e' ok' n) (h2 : Cod e2 ok2 n) : Cod (fun p : α × β × γ => .tuple [e p.1, e' p.2.1, e2 p.2.2]) (fun p => ok p.1 ∧ ok' p.2.1 ∧ ok2 p.2.2) (n + 1) := by
  refine ⟨fun p hp => ?_, fun p hp => ?_, fun p q => ?_⟩
  · simp [PyData.canLay0, PyData.canLayAll0, h.lay _ hp.1, h'.lay _ hp.2.1, h2.lay _ hp.2.2]
  · simp only [PyData.depth, PyData.depthAll]
    have h1 := h.dep _ hp.1
    have h2 := h'.dep _ hp.2.1
    have h3 := Cod.dep ‹Cod e2 ok2 n› _ hp.2.2
    omega
  · obtain ⟨p1, p2, p3⟩ := p
    obtain ⟨q1, q2, q3⟩ := q
    simp [PyData.eqv, PyData.eqvAll, h.eqv, h'.eqv, h2.eqv]
section
variable {α : Type} {e : α → PyData} {ok : α → Prop} {n : Nat} {x y : α} {L : List α}
theorem Cod.shaped (h : Cod e ok n) (hn : n ≤ 64) (hx : ok x) : SeqAt.shaped (e x) = true := by
  have h1 := h.lay x hx
  have h2 := h.dep x hx
  simp only [SeqAt.shaped, h1, Bool.true_and, decide_eq_true_eq]
  omega
theorem eqOk_of {x y : PyData} (h : SeqAt.shaped x = true) (h' : SeqAt.shaped y = true) : eqOk x y = true := by
  unfold eqOk
  split
  · rfl
  · rw [h, h']
    rfl
theorem Cod.dec (h : Cod e ok n) (x y : α) [Decidable (x = y)] : PyData.eqv (e x) (e y) = decide (x = y) := by
  rw [Bool.eq_iff_iff, h.eqv, decide_eq_true_eq]
theorem Cod.eq [Decidable (x = y)] (h : Cod e ok n) (hx : ok x) (hy : ok y) (hn : n ≤ 64 := by omega) : eqD (e x) (e y) = some (.bool (decide (x = y))) := by
  unfold eqD
  rw [if_pos (eqOk_of (h.shaped hn hx) (h.shaped hn hy)), h.dec]
theorem Cod.ne [Decidable (x = y)] (h : Cod e ok n) (hx : ok x) (hy : ok y) (hn : n ≤ 64 := by omega) : neD (e x) (e y) = some (.bool (!decide (x = y))) := by
  unfold neD
  rw [if_pos (eqOk_of (h.shaped hn hx) (h.shaped hn hy)), h.dec]
theorem Cod.any [Decidable (x ∈ L)] (h : Cod e ok n) : ((L.map e).any fun z => PyData.eqv z (e x)) = decide (x ∈ L) := by
  rw [Bool.eq_iff_iff, List.any_eq_true, decide_eq_true_eq]
  constructor
  · rintro ⟨z, hz, e1⟩
    obtain ⟨l, hl, rfl⟩ := List.mem_map.mp hz
    rw [h.eqv] at e1
    rw [← e1]
    exact hl
  · intro hx
    exact ⟨e x, List.mem_map_of_mem hx, (h.eqv _ _).mpr rfl⟩
theorem in_list {d : PyData} {ds : List PyData} (h : SeqAt.shaped d = true) (h' : SeqAt.shaped (.list ds) = true) : inD d (.list ds) = some (.bool (ds.any fun z => PyData.eqv z d)) := by
  cases d <;> simp only [inD] <;> rw [if_pos ⟨h, h'⟩]
theorem notIn_list {d : PyData} {ds : List PyData} (h : SeqAt.shaped d = true) (h' : SeqAt.shaped (.list ds) = true) : notInD d (.list ds) = some (.bool (!ds.any fun z => PyData.eqv z d)) := by
  cases d <;> simp only [notInD] <;> rw [if_pos ⟨h, h'⟩]
theorem Cod.isIn [Decidable (x ∈ L)] (h : Cod e ok n) (hx : ok x) (hL : ∀ y ∈ L, ok y) (hn : n < 64 := by omega) : inD (e x) (.list (L.map e)) = some (.bool (decide (x ∈ L))) := by
  rw [in_list (h.shaped (by omega) hx) ((cod_list h).shaped (x := L) (by omega) hL), h.any]
theorem Cod.notIn [Decidable (x ∈ L)] (h : Cod e ok n) (hx : ok x) (hL : ∀ y ∈ L, ok y) (hn : n < 64 := by omega) : notInD (e x) (.list (L.map e)) = some (.bool (!decide (x ∈ L))) := by
  rw [notIn_list (h.shaped (by omega) hx) ((cod_list h).shaped (x := L) (by omega) hL), h.any]
end
/-- data of two kinds are never equal -/
theorem eq_kinds {x y : PyData} (h : SeqAt.shaped x = true) (h' : SeqAt.shaped y = true) (e : PyData.eqv x y = false) : eqD x y = some (.bool false) := by
  unfold eqD
  rw [if_pos (eqOk_of h h'), e]
theorem ne_kinds {x y : PyData} (h : SeqAt.shaped x = true) (h' : SeqAt.shaped y = true) (e : PyData.eqv x y = false) : neD x y = some (.bool true) := by
  unfold neD
  rw [if_pos (eqOk_of h h'), e]
  rfl
theorem eq_words {L M : List (List Nat)} (hL : ∀ l ∈ L, cpW l) (hM : ∀ l ∈ M, cpW l) : eqD (.list (L.map S)) (.list (M.map S)) = some (.bool (decide (L = M))) := (cod_list cod_word).eq hL hM
theorem ne_words {L M : List (List Nat)} (hL : ∀ l ∈ L, cpW l) (hM : ∀ l ∈ M, cpW l) : neD (.list (L.map S)) (.list (M.map S)) = some (.bool (!decide (L = M))) := (cod_list cod_word).ne hL hM
theorem eq_nats {L M : List Nat} : eqD (.list (L.map fun k : Nat => PyData.int (k : Int))) (.list (M.map fun k : Nat => PyData.int (k : Int))) = some (.bool (decide (L = M))) := (cod_list cod_nat).eq (fun _ _ => trivial) (fun _ _ => trivial)
theorem ne_nats {L M : List Nat} : neD (.list (L.map fun k : Nat => PyData.int (k : Int))) (.list (M.map fun k : Nat => PyData.int (k : Int))) = some (.bool (!decide (L = M))) := (cod_list cod_nat).ne (fun _ _ => trivial) (fun _ _ => trivial)
theorem in_word {w : List Nat} {L : List (List Nat)} (hw : cpW w) (hL : ∀ l ∈ L, cpW l) : inD (S w) (.list (L.map S)) = some (.bool (decide (w ∈ L))) := cod_word.isIn hw hL
theorem notIn_word {w : List Nat} {L : List (List Nat)} (hw : cpW w) (hL : ∀ l ∈ L, cpW l) : notInD (S w) (.list (L.map S)) = some (.bool (!decide (w ∈ L))) := cod_word.notIn hw hL
theorem in_nat {k : Nat} {L : List Nat} : inD (.int (k : Int)) (.list (L.map fun k : Nat => PyData.int (k : Int))) = some (.bool (decide (k ∈ L))) := cod_nat.isIn trivial fun _ _ => trivial
theorem notIn_nat {k : Nat} {L : List Nat} : notInD (.int (k : Int)) (.list (L.map fun k : Nat => PyData.int (k : Int))) = some (.bool (!decide (k ∈ L))) := cod_nat.notIn trivial fun _ _ => trivial
theorem cpW_of {a : List Nat} (h : wordB a = true) : cpW a := fun c hc => let_code (wordB_let h c hc)
theorem cpW_take {a : List Nat} (h : cpW a) (k : Nat) : cpW (a.take k) := fun c hc => h c (List.mem_of_mem_take hc)
theorem cpW_drop {a : List Nat} (h : cpW a) (k : Nat) : cpW (a.drop k) := fun c hc => h c (List.mem_of_mem_drop hc)
theorem cpW_app {a b : List Nat} (h : cpW a) (h' : cpW b) : cpW (a ++ b) := fun c hc => (List.mem_append.mp hc).elim (h c) (h' c)
theorem cpW_rev {a : List Nat} (h : cpW a) : cpW a.reverse := fun c hc => h c (List.mem_reverse.mp hc)
theorem word_take {a : List Nat} (h : wordB a = true) (k : Nat) : wordB (a.take k) = true := wordB_mk (by have := wordB_len h; simp; omega) fun c hc => wordB_let h c (List.mem_of_mem_take hc)
theorem word_drop {a : List Nat} (h : wordB a = true) (k : Nat) : wordB (a.drop k) = true := wordB_mk (by have := wordB_len h; simp; omega) fun c hc => wordB_let h c (List.mem_of_mem_drop hc)
theorem word_rev {a : List Nat} (h : wordB a = true) : wordB a.reverse = true := wordB_mk (by have := wordB_len h; simp; omega) fun c hc => wordB_let h c (List.mem_reverse.mp hc)
theorem word_cut {a : List Nat} (h : wordB a = true) (i j : Nat) : wordB ((a.take j).drop i) = true := word_drop (word_take h j) i
end RD

/-! The data layer, part p: contracts of defs that take one word or two. -/
namespace RD
open PySem L2
/-- one word: refused if it is none -/
abbrev TW (inv : Value) (R : List Nat → PyData) : PT := fun ds Q E => ∃ d, ds = [d] ∧ fewD d = true ∧ (isWordD d = false → E inv) ∧ ∀ a, d = S a → wordB a = true → Q (R a)
/-- one word, not empty -/
abbrev TF (inv emp : Value) (R : List Nat → PyData) : PT := fun ds Q E => ∃ d, ds = [d] ∧ fewD d = true ∧ (isWordD d = false → E inv) ∧ (d = S [] → E emp) ∧ ∀ a, d = S a → wordB a = true → a ≠ [] → Q (R a)
/-- two words -/
abbrev TW2 (inv : Value) (R : List Nat → List Nat → PyData) : PT := fun ds Q E => ∃ d e, ds = [d, e] ∧ fewD d = true ∧ fewD e = true ∧ (isWordD d = false → E inv) ∧ (isWordD e = false → E inv) ∧ ∀ a b, d = S a → e = S b → wordB a = true → wordB b = true → Q (R a b)
/-- two words, both not empty -/
abbrev TF2 (inv emp : Value) (R : List Nat → List Nat → PyData) : PT := fun ds Q E => ∃ d e, ds = [d, e] ∧ fewD d = true ∧ fewD e = true ∧ (isWordD d = false → E inv) ∧ (isWordD e = false → E inv) ∧ ∀ a b, d = S a → e = S b → wordB a = true → wordB b = true → (a = [] → E emp) ∧ (b = [] → E emp) ∧ (a ≠ [] → b ≠ [] → Q (R a b))
section
variable {inv emp : Value} {R : List Nat → PyData} {R2 : List Nat → List Nat → PyData} {Q : PyData → Prop} {E : Value → Prop} {d e : PyData} {a b : List Nat}
theorem TW_mono : MonoP (TW inv R) := fun _ _ _ _ _ hq he ⟨d, h1, h2, h3, h4⟩ => ⟨d, h1, h2, fun z => he _ (h3 z), fun a ea wa => hq _ (h4 a ea wa)⟩
theorem TF_mono : MonoP (TF inv emp R) := fun _ _ _ _ _ hq he ⟨d, h1, h2, h3, h5, h4⟩ => ⟨d, h1, h2, fun z => he _ (h3 z), fun z => he _ (h5 z), fun a ea wa ha => hq _ (h4 a ea wa ha)⟩
theorem TW2_mono : MonoP (TW2 inv R2) := fun _ _ _ _ _ hq he ⟨d, e, h1, h2, h3, h4, h5, h6⟩ => ⟨d, e, h1, h2, h3, fun z => he _ (h4 z), fun z => he _ (h5 z), fun a b ea eb wa wb => hq _ (h6 a b ea eb wa wb)⟩
theorem TF2_mono : MonoP (TF2 inv emp R2) := fun _ _ _ _ _ hq he ⟨d, e, h1, h2, h3, h4, h5, h6⟩ => ⟨d, e, h1, h2, h3, fun z => he _ (h4 z), fun z => he _ (h5 z), fun a b ea eb wa wb => ⟨fun z => he _ ((h6 a b ea eb wa wb).1 z), fun z => he _ ((h6 a b ea eb wa wb).2.1 z), fun z y => hq _ ((h6 a b ea eb wa wb).2.2 z y)⟩⟩
theorem word_ne (h : wordB a = true) : ¬ isWordD (S a) = false := by
  rw [isWord_S, h]
  decide
theorem S_inj {a b : List Nat} (h : S a = S b) : a = b := St_inj.mp (by injection h)
theorem few_word (h : wordB a = true) : fewD (S a) = true := few_S (by have := wordB_len h; omega)
theorem TW_ok (wa : wordB a = true) (h : Q (R a)) : TW inv R [S a] Q E := ⟨S a, rfl, few_word wa, fun z => absurd z (word_ne wa), fun a' ea _ => by rw [← S_inj ea]; exact h⟩
theorem TW_bad (hd : isWordD d = false) (hf : fewD d = true) (h : E inv) : TW inv R [d] Q E := ⟨d, rfl, hf, fun _ => h, fun a' ea wa => by subst ea; exact absurd hd (word_ne wa)⟩
theorem TF_ok (wa : wordB a = true) (ha : a ≠ []) (h : Q (R a)) : TF inv emp R [S a] Q E := ⟨S a, rfl, few_word wa, fun z => absurd z (word_ne wa), fun z => absurd (S_inj z) ha, fun a' ea _ _ => by rw [← S_inj ea]; exact h⟩
theorem TF_bad (hd : isWordD d = false) (hf : fewD d = true) (h : E inv) : TF inv emp R [d] Q E := ⟨d, rfl, hf, fun _ => h, (fun z => by subst z; exact absurd hd (word_ne rfl)), fun a' ea wa _ => by subst ea; exact absurd hd (word_ne wa)⟩
theorem TF_emp (h : E emp) : TF inv emp R [S []] Q E := ⟨S [], rfl, rfl, fun z => absurd z (word_ne rfl), fun _ => h, fun a' ea _ ha => absurd (S_inj ea).symm ha⟩
theorem TW2_ok (wa : wordB a = true) (wb : wordB b = true) (h : Q (R2 a b)) : TW2 inv R2 [S a, S b] Q E := ⟨S a, S b, rfl, few_word wa, few_word wb, fun z => absurd z (word_ne wa), fun z => absurd z (word_ne wb), fun a' b' ea eb _ _ => by rw [← S_inj ea, ← S_inj eb]; exact h⟩
theorem TW2_bad1 (hd : isWordD d = false) (hf : fewD d = true) (he : fewD e = true) (h : E inv) : TW2 inv R2 [d, e] Q E := ⟨d, e, rfl, hf, he, fun _ => h, fun _ => h, fun a' b' ea _ wa _ => by subst ea; exact absurd hd (word_ne wa)⟩
theorem TW2_bad2 (hd : isWordD e = false) (hf : fewD d = true) (he : fewD e = true) (h : E inv) : TW2 inv R2 [d, e] Q E := ⟨d, e, rfl, hf, he, fun _ => h, fun _ => h, fun a' b' _ eb _ wb => by subst eb; exact absurd hd (word_ne wb)⟩
theorem TF2_ok (wa : wordB a = true) (wb : wordB b = true) (ha : a ≠ []) (hb : b ≠ []) (h : Q (R2 a b)) : TF2 inv emp R2 [S a, S b] Q E := ⟨S a, S b, rfl, few_word wa, few_word wb, fun z => absurd z (word_ne wa), fun z => absurd z (word_ne wb), fun a' b' ea eb _ _ => by rw [← S_inj ea, ← S_inj eb]; exact ⟨fun z => absurd z ha, fun z => absurd z hb, fun _ _ => h⟩⟩
theorem TF2_bad1 (hd : isWordD d = false) (hf : fewD d = true) (he : fewD e = true) (h : E inv) : TF2 inv emp R2 [d, e] Q E := ⟨d, e, rfl, hf, he, fun _ => h, fun _ => h, fun a' b' ea _ wa _ => by subst ea; exact absurd hd (word_ne wa)⟩
theorem TF2_bad2 (hd : isWordD e = false) (hf : fewD d = true) (he : fewD e = true) (h : E inv) : TF2 inv emp R2 [d, e] Q E := ⟨d, e, rfl, hf, he, fun _ => h, fun _ => h, fun a' b' _ eb _ wb => by subst eb; exact absurd hd (word_ne wb)⟩
theorem TF2_emp (wa : wordB a = true) (wb : wordB b = true) (hab : a = [] ∨ b = []) (h : E emp) : TF2 inv emp R2 [S a, S b] Q E := ⟨S a, S b, rfl, few_word wa, few_word wb, fun z => absurd z (word_ne wa), fun z => absurd z (word_ne wb), fun a' b' ea eb _ _ => by
  rw [← S_inj ea, ← S_inj eb]
  exact ⟨fun _ => h, fun _ => h, fun z y => hab.elim (fun q => absurd q z) fun q => absurd q y⟩⟩
end
/-! the same, told by a law's own def -/
abbrev TAW (R : List Nat → PyData) : PT := fun ds Q _ => ∃ d, ds = [d] ∧ fewD d = true ∧ (isWordD d = false → Q (told 0)) ∧ ∀ a, d = S a → wordB a = true → Q (R a)
abbrev TAF (R : List Nat → PyData) : PT := fun ds Q _ => ∃ d, ds = [d] ∧ fewD d = true ∧ (isWordD d = false → Q (told 0)) ∧ (d = S [] → Q (told 4)) ∧ ∀ a, d = S a → wordB a = true → a ≠ [] → Q (R a)
section
variable {R : List Nat → PyData} {Q : PyData → Prop} {E : Value → Prop} {d e : PyData} {a b : List Nat}
theorem TAW_mono : MonoP (TAW R) := fun _ _ _ _ _ hq he ⟨d, h1, h2, h3, h4⟩ => ⟨d, h1, h2, fun z => hq _ (h3 z), fun a ea wa => hq _ (h4 a ea wa)⟩
theorem TAF_mono : MonoP (TAF R) := fun _ _ _ _ _ hq he ⟨d, h1, h2, h3, h5, h4⟩ => ⟨d, h1, h2, fun z => hq _ (h3 z), fun z => hq _ (h5 z), fun a ea wa ha => hq _ (h4 a ea wa ha)⟩
theorem TAW_ok (wa : wordB a = true) (h : Q (R a)) : TAW R [S a] Q E := ⟨S a, rfl, few_word wa, fun z => absurd z (word_ne wa), fun a' ea _ => by rw [← S_inj ea]; exact h⟩
theorem TAW_bad (hd : isWordD d = false) (hf : fewD d = true) (h : Q (told 0)) : TAW R [d] Q E := ⟨d, rfl, hf, fun _ => h, fun a' ea wa => by subst ea; exact absurd hd (word_ne wa)⟩
theorem TAF_ok (wa : wordB a = true) (ha : a ≠ []) (h : Q (R a)) : TAF R [S a] Q E := ⟨S a, rfl, few_word wa, fun z => absurd z (word_ne wa), fun z => absurd (S_inj z) ha, fun a' ea _ _ => by rw [← S_inj ea]; exact h⟩
theorem TAF_bad (hd : isWordD d = false) (hf : fewD d = true) (h : Q (told 0)) : TAF R [d] Q E := ⟨d, rfl, hf, fun _ => h, (fun z => by subst z; exact absurd hd (word_ne rfl)), fun a' ea wa _ => by subst ea; exact absurd hd (word_ne wa)⟩
theorem TAF_emp (h : Q (told 4)) : TAF R [S []] Q E := ⟨S [], rfl, rfl, fun z => absurd z (word_ne rfl), fun _ => h, fun a' ea _ ha => absurd (S_inj ea).symm ha⟩
end
/-- one of some defs that take a word: (must it not be empty, what it gives) -/
abbrev TAT (Fs : List (Bool × (List Nat → PyData))) : PT := fun ds Q _ => ∃ (j : Int) (d : PyData) (F : Bool × (List Nat → PyData)), ds = [.int j, d] ∧ 0 ≤ j ∧ fewD d = true ∧ Fs[j.toNat]? = some F ∧ (isWordD d = false → Q (told 0)) ∧ (F.1 = true → d = S [] → Q (told 4)) ∧ ∀ a, d = S a → wordB a = true → (F.1 = true → a ≠ []) → Q (F.2 a)
section
variable {Fs : List (Bool × (List Nat → PyData))} {F : Bool × (List Nat → PyData)} {j : Int} {Q : PyData → Prop} {E : Value → Prop} {d e : PyData} {a b : List Nat}
theorem TAT_mono : MonoP (TAT Fs) := fun _ _ _ _ _ hq he ⟨j, d, F, h1, h2, h3, h4, h5, h6, h7⟩ => ⟨j, d, F, h1, h2, h3, h4, fun z => hq _ (h5 z), fun z y => hq _ (h6 z y), fun a ea wa ha => hq _ (h7 a ea wa ha)⟩
theorem TAT_ok (hj : 0 ≤ j) (hF : Fs[j.toNat]? = some F) (wa : wordB a = true) (ha : F.1 = true → a ≠ []) (h : Q (F.2 a)) : TAT Fs [.int j, S a] Q E := ⟨j, S a, F, rfl, hj, few_word wa, hF, fun z => absurd z (word_ne wa), fun z y => absurd (S_inj y) (ha z), fun a' ea _ _ => by rw [← S_inj ea]; exact h⟩
theorem TAT_bad (hj : 0 ≤ j) (hF : Fs[j.toNat]? = some F) (hd : isWordD d = false) (hf : fewD d = true) (h : Q (told 0)) : TAT Fs [.int j, d] Q E := ⟨j, d, F, rfl, hj, hf, hF, fun _ => h, (fun _ z => by subst z; exact absurd hd (word_ne rfl)), fun a' ea wa _ => by subst ea; exact absurd hd (word_ne wa)⟩
theorem TAT_emp (hj : 0 ≤ j) (hF : Fs[j.toNat]? = some F) (hT : F.1 = true) (h : Q (told 4)) : TAT Fs [.int j, S []] Q E := ⟨j, S [], F, rfl, hj, rfl, hF, fun z => absurd z (word_ne rfl), fun _ _ => h, fun a' ea _ ha => absurd (S_inj ea).symm (ha hT)⟩
end
/-- an exception that is told -/
theorem exK {i : Nat} {kind : Addr → Int → Prop} {D : WEnds} {C : Addr} {j : Int} {δ : DS} (hi : i < δ.length) (hk : kind C j) (h : D.rt (told j) δ) : (exT i kind D).ex (.ref C) δ := ⟨hi, C, j, rfl, hk, h⟩
theorem iteD {c A B : Prop} [Decidable c] (h1 : c → A) (h2 : ¬ c → B) : if decide c = true then A else B := by
  by_cases h : c
  · exact if_true_of' h (h1 h)
  · exact if_false_of' h (h2 h)
theorem iteN {c A B : Prop} [Decidable c] (h1 : ¬ c → A) (h2 : c → B) : if (!decide c) = true then A else B := by
  by_cases h : c
  · rw [decide_eq_true h]
    exact iteF (h2 h)
  · rw [decide_eq_false h]
    exact iteT (h1 h)
theorem eqGo {c A B : Prop} [Decidable c] (h : c) (q : B) : if (!decide c) = true then A else B := iteN (fun z => absurd h z) fun _ => q
theorem neGo {c A B : Prop} [Decidable c] (h : ¬ c) (q : A) : if (!decide c) = true then A else B := iteN (fun _ => q) fun z => absurd z h
/-- a written text, by its signs -/
theorem u_CS {x : Str} {l : List Nat} {δ : DS} {Q : PyData → DS → Prop} {E : XC} (e : x = St l) (h : Q (S l) δ) : wC (.str x) δ Q E := by
  subst e
  exact h
theorem join_chars' {l : List Nat} (h : l.length ≤ 100000) : joinF (S []) (.list (l.map fun c => S [c])) = some (S l) := by
  have := join_chars h
  rwa [empty_St] at this
/-! lists of data -/
theorem shaped_list {xs : List PyData} (h : ∀ x ∈ xs, PyData.canLay0 x = true ∧ x.depth ≤ 60) : SeqAt.shaped (.list xs) = true := by
  have h1 : PyData.canLayAll0 xs = true ∧ PyData.depthAll xs ≤ 60 := by
    induction xs with
    | nil => simp [PyData.canLayAll0, PyData.depthAll]
    | cons x xs ih =>
      obtain ⟨i1, i2⟩ := ih fun y hy => h y (List.mem_cons_of_mem _ hy)
      obtain ⟨j1, j2⟩ := h x List.mem_cons_self
      simp only [PyData.canLayAll0, PyData.depthAll, i1, j1, Bool.and_self, true_and]
      omega
  have h2 := h1.2
  simp only [SeqAt.shaped, PyData.canLay0, PyData.depth, h1.1, Bool.true_and]
  exact decide_eq_true (by omega)
theorem shaped_nats (L : List Nat) : SeqAt.shaped (.list (L.map fun k : Nat => PyData.int (k : Int))) = true := (cod_list cod_nat).shaped (x := L) (by omega) fun _ _ => trivial
theorem shaped_wordsL {L : List (List Nat)} (h : ∀ l ∈ L, cpW l) : SeqAt.shaped (.list (L.map S)) = true := (cod_list cod_word).shaped (x := L) (by omega) h
theorem shaped_S {l : List Nat} (h : cpW l) : SeqAt.shaped (S l) = true := cod_word.shaped (by omega) h
theorem eqv_nilL (xs : List PyData) : PyData.eqv (.list xs) (.list []) = xs.isEmpty := by
  cases xs <;> simp [PyData.eqv, PyData.eqvAll]
theorem eq_nilL {xs : List PyData} (h : SeqAt.shaped (.list xs) = true) : eqD (.list xs) (.list []) = some (.bool xs.isEmpty) := by
  unfold eqD
  rw [if_pos (eqOk_of h rfl), eqv_nilL]
theorem ne_nilL {xs : List PyData} (h : SeqAt.shaped (.list xs) = true) : neD (.list xs) (.list []) = some (.bool (!xs.isEmpty)) := by
  unfold neD
  rw [if_pos (eqOk_of h rfl), eqv_nilL]
theorem eqv_told (i j : Int) : PyData.eqv (told i) (told j) = decide (i = j) := by
  simp [told, PyData.eqv, PyData.eqvAll]
  rfl
theorem eq_told (i j : Int) : eqD (told i) (.tuple [.str "raised", .int j]) = some (.bool (decide (i = j))) := by
  have e : eqOk (told i) (told j) = true := eqOk_of (told_shaped i) (told_shaped j)
  show eqD (told i) (told j) = _
  unfold eqD
  rw [if_pos e, eqv_told]
theorem ne_told' (i j : Int) : neD (told i) (.tuple [.str "raised", .int j]) = some (.bool (!decide (i = j))) := ne_told i j
theorem eq_same {x : PyData} (h : SeqAt.shaped x = true) : eqD x x = some (.bool true) := by
  unfold eqD
  rw [if_pos (eqOk_of h h), SeqAt.eqv_refl x (SeqAt.canLay_of_shaped h)]
theorem ne_self {x : PyData} (h : SeqAt.shaped x = true) : neD x x = some (.bool false) := by
  unfold neD
  rw [if_pos (eqOk_of h h), SeqAt.eqv_refl x (SeqAt.canLay_of_shaped h)]
  rfl
theorem ne_eq' {x y : PyData} (e : x = y) (h : SeqAt.shaped y = true) : neD x y = some (.bool false) := by
  rw [e]
  exact ne_self h
theorem eq_eq' {x y : PyData} (e : x = y) (h : SeqAt.shaped y = true) : eqD x y = some (.bool true) := by
  rw [e]
  exact eq_same h
theorem add_L {xs ys : List PyData} (h : xs.length + ys.length ≤ 100000) : addD (.list xs) (.list ys) = some (.list (xs ++ ys)) := by
  simp only [addD]
  rw [if_pos (le_line h)]
theorem mul_L {xs : List PyData} {k : Int} (h0 : 0 ≤ k) (h1 : k ≤ 1000) (h2 : xs.length ≤ 100) : mulD (.list xs) (.int k) = some (.list (List.replicate k.toNat xs).flatten) := by
  simp only [mulD]
  have : xs.length * k.toNat ≤ 100 * 1000 := Nat.mul_le_mul h2 (by omega)
  rw [if_pos ⟨by omega, by omega, le_line (by omega)⟩]
theorem repS_St (l : List Nat) (k : Int) : repS (St l) k = St (List.replicate k.toNat l).flatten := by simp [repS, St]
theorem mul_S {l : List Nat} {k : Int} (h0 : 0 ≤ k) (h1 : k ≤ 1000) (h2 : l.length ≤ 1000) : mulD (S l) (.int k) = some (S (List.replicate k.toNat l).flatten) := by
  simp only [mulD]
  rw [if_pos ⟨h0, h1, by rw [St_len]; exact h2⟩, repS_St]
/-- a comprehension over written items -/
theorem lcL {set : PyData → DS → Option DS} {is : List Nat} {we : WE} {Q : List PyData → DS → Prop} {δ : DS} {L : List PyData} (f : PyData → PyData) (hl : L.length ≤ 100000)
    (h : ∀ x ∈ L, ∃ δ1, set x δ = some δ1 ∧ wipeD δ1 is = δ ∧ (∀ P : PyData → DS → Prop, P (f x) δ1 → we δ1 P noX))
    (q : Q (L.map f) δ) : wLcL set is wYes we L δ [] Q := by
  have := lcM (g := fun x : PyData => x) (set := set) (is := is) (we := we) (Q := Q) (δ := δ) f hl h q
  rwa [List.map_id'] at this
theorem join_words {L : List (List Nat)} (h : L.flatten.length ≤ 100000) : joinF (S []) (.list (L.map S)) = some (S L.flatten) := by
  have e1 : txts (L.map S) = some (L.map St) := by
    have := txts_map (L.map St)
    rwa [List.map_map] at this
  have e3 : ((L.map St).map (·.length)).sum = L.flatten.length := by
    clear e1 h
    induction L with
    | nil => rfl
    | cons l L ih =>
      rw [List.map_cons, List.map_cons, List.sum_cons, ih, St_len]
      simp
  show joinF (.str (St [])) (.list (L.map S)) = _
  simp only [joinF, e1, Option.bind_some]
  rw [if_pos (by rw [e3, St_len]; simp only [List.length_nil, Nat.mul_zero]; omega), ← empty_St, TL.join_eq, join_none, List.map_map]
  simp [Function.comp_def, St]
theorem ne_tolds {xs ys : List PyData} (e : xs = ys) (h : ∀ x ∈ ys, ∃ k, x = told k) : neD (.list xs) (.list ys) = some (.bool false) := by
  subst e
  refine ne_self (shaped_list fun x hx => ?_)
  obtain ⟨k, rfl⟩ := h x hx
  exact ⟨SeqAt.canLay_of_shaped (told_shaped k), by simp [told, PyData.depth, PyData.depthAll]⟩
theorem eq_tolds {xs ys : List PyData} (e : xs = ys) (h : ∀ x ∈ ys, ∃ k, x = told k) : eqD (.list xs) (.list ys) = some (.bool true) := by
  subst e
  refine eq_same (shaped_list fun x hx => ?_)
  obtain ⟨k, rfl⟩ := h x hx
  exact ⟨SeqAt.canLay_of_shaped (told_shaped k), by simp [told, PyData.depth, PyData.depthAll]⟩
theorem foldl_keep {α β : Type} (p : α → Bool) (f : α → β) : ∀ (L : List α) (acc : List β), L.foldl (fun acc x => if p x = true then acc ++ [f x] else acc) acc = acc ++ (L.filter p).map f
  | [], acc => by simp
  | x :: L, acc => by
    rw [List.foldl_cons, foldl_keep p f L]
    by_cases h : p x = true
    · rw [if_pos h, List.filter_cons_of_pos h]
      simp
    · rw [if_neg h, List.filter_cons_of_neg h]
/-- a loop over numbers: I j holds ahead of the item j -/
theorem for_range {set : PyData → DS → Option DS} {body : WS} {D : WEnds} {g : Nat → PyData} (I : Nat → DS → Prop) : ∀ (m k : Nat) (δ : DS), I k δ → (∀ δ, I (k + m) δ → D.nx δ) →
    (∀ j, k ≤ j → j < k + m → ∀ δ, I j δ → ∀ xs : List Nat, (∀ δ', I (j + 1) δ' → wForL set body (xs.map g) δ' D) → ∃ δ1, set (g j) δ = some δ1 ∧ body δ1 { D with nx := fun δ' => wForL set body (xs.map g) δ' D, ct := fun δ' => wForL set body (xs.map g) δ' D, bk := D.nx }) →
    wForL set body ((List.range' k m).map g) δ D
  | 0, k, δ, hi, h0, _ => h0 δ hi
  | m + 1, k, δ, hi, h0, hs => by
    rw [List.range'_succ, List.map_cons]
    exact hs k (Nat.le_refl _) (by omega) δ hi _ fun δ' hi' => for_range I m (k + 1) δ' hi' (fun δ h => h0 δ (by rwa [show k + (m + 1) = k + 1 + m by omega])) fun j h1 h2 => hs j (by omega) (by omega)
theorem for_range0 {set : PyData → DS → Option DS} {body : WS} {D : WEnds} {g : Nat → PyData} (I : Nat → DS → Prop) (m : Nat) (δ : DS) (hi : I 0 δ) (h0 : ∀ δ, I m δ → D.nx δ)
    (hs : ∀ j, j < m → ∀ δ, I j δ → ∀ xs : List Nat, (∀ δ', I (j + 1) δ' → wForL set body (xs.map g) δ' D) → ∃ δ1, set (g j) δ = some δ1 ∧ body δ1 { D with nx := fun δ' => wForL set body (xs.map g) δ' D, ct := fun δ' => wForL set body (xs.map g) δ' D, bk := D.nx }) :
    wForL set body ((List.range m).map g) δ D := by
  rw [List.range_eq_range']
  exact for_range I m 0 δ hi (fun δ h => h0 δ (by rwa [Nat.zero_add] at h)) fun j _ h => hs j (by omega)
theorem flat_rep {α : Type} (x : α) : ∀ n : Nat, (List.replicate n [x]).flatten = List.replicate n x
  | 0 => rfl
  | n + 1 => by
    rw [List.replicate_succ, List.flatten_cons, flat_rep x n, List.replicate_succ]
    rfl
/-- many times one thing -/
theorem reps_eq {α : Type} {L : List α} {n : Nat} {x : PyData} (hn : n = L.length) : L.map (fun _ => x) = (List.replicate n [x]).flatten := by
  rw [flat_rep, hn, List.map_const']
theorem ne_reps {α : Type} {L : List α} {n : Nat} {x : PyData} (hn : n = L.length) (hx : PyData.canLay0 x = true ∧ x.depth ≤ 60) : neD (.list (L.map fun _ => x)) (.list (List.replicate n [x]).flatten) = some (.bool false) := by
  refine ne_eq' (by rw [reps_eq hn]) (shaped_list fun y hy => ?_)
  rw [flat_rep] at hy
  rw [List.eq_of_mem_replicate hy]
  exact hx
theorem eq_reps {α : Type} {L : List α} {n : Nat} {x : PyData} (hn : n = L.length) (hx : PyData.canLay0 x = true ∧ x.depth ≤ 60) : eqD (.list (L.map fun _ => x)) (.list (List.replicate n [x]).flatten) = some (.bool true) := by
  refine eq_eq' (by rw [reps_eq hn]) (shaped_list fun y hy => ?_)
  rw [flat_rep] at hy
  rw [List.eq_of_mem_replicate hy]
  exact hx
theorem lay_bool (b : Bool) : PyData.canLay0 (.bool b) = true ∧ (PyData.bool b).depth ≤ 60 := ⟨rfl, by simp [PyData.depth]⟩
theorem lay_told (k : Int) : PyData.canLay0 (told k) = true ∧ (told k).depth ≤ 60 := ⟨SeqAt.canLay_of_shaped (told_shaped k), by simp [told, PyData.depth, PyData.depthAll]⟩
theorem ne_bools (b c : Bool) : neD (.bool b) (.bool c) = some (.bool (!decide (b = c))) := cod_bool.ne trivial trivial
theorem eq_bools (b c : Bool) : eqD (.bool b) (.bool c) = some (.bool (decide (b = c))) := cod_bool.eq trivial trivial
theorem lt_int (i j : Int) : cmpI (fun i j => decide (i < j)) (.int i) (.int j) = some (.bool (decide (i < j))) := rfl
theorem le_int (i j : Int) : cmpI (fun i j => decide (i ≤ j)) (.int i) (.int j) = some (.bool (decide (i ≤ j))) := rfl
theorem gt_int (i j : Int) : cmpI (fun i j => decide (j < i)) (.int i) (.int j) = some (.bool (decide (j < i))) := rfl
theorem ge_int (i j : Int) : cmpI (fun i j => decide (j ≤ i)) (.int i) (.int j) = some (.bool (decide (j ≤ i))) := rfl
/-- two ways that join -/
theorem ifJ {c : Bool} {s1 s2 R : WS} {δ : DS} {D : WEnds} (I : DS → Prop) (main : ∀ δ', I δ' → R δ' D) (h1 : c = true → ∀ R' : WS, (∀ δ', I δ' → R' δ' D) → wSeq s1 R' δ D) (h2 : c = false → ∀ R' : WS, (∀ δ', I δ' → R' δ' D) → wSeq s2 R' δ D) :
    if c = true then wSeq s1 R δ D else wSeq s2 R δ D := by
  cases c with
  | true => exact iteT (h1 rfl R main)
  | false => exact iteF (h2 rfl R main)
/-- a loop, by the items that were had -/
theorem for_pre {α : Type} {set : PyData → DS → Option DS} {body : WS} {D : WEnds} {g : α → PyData} (I : List α → DS → Prop) (L : List α) (δ : DS) (hi : I [] δ) (h0 : ∀ δ, I L δ → D.nx δ)
    (hs : ∀ (done : List α) (x : α) (rest : List α), L = done ++ x :: rest → ∀ δ, I done δ → (∀ δ', I (done ++ [x]) δ' → wForL set body (rest.map g) δ' D) → ∃ δ1, set (g x) δ = some δ1 ∧ body δ1 { D with nx := fun δ' => wForL set body (rest.map g) δ' D, ct := fun δ' => wForL set body (rest.map g) δ' D, bk := D.nx }) :
    wForL set body (L.map g) δ D := by
  have key : ∀ (rest done : List α) (δ : DS), L = done ++ rest → I done δ → wForL set body (rest.map g) δ D := by
    intro rest
    induction rest with
    | nil =>
      intro done δ e hi
      rw [List.append_nil] at e
      subst e
      exact h0 δ hi
    | cons x rest ih =>
      intro done δ e hi
      exact hs done x rest e δ hi fun δ' hi' => ih (done ++ [x]) δ' (by rw [e]; simp) hi'
  exact key L [] δ rfl hi
/-- a test that does not hold is passed by -/
theorem s_skip {c : WT} {u t : WS} {δ : DS} {D : WEnds} (h : ∀ P : Bool → DS → Prop, P false δ → c δ P D.ex) (q : t δ D) : wSeq (wIfS c u wNext) t δ D := h (fun b δ1 => if b = true then wSeq u t δ1 D else wSeq wNext t δ1 D) (iteF q)
theorem u_skip {c : WT} {u : WS} {δ : DS} {D : WEnds} (h : ∀ P : Bool → DS → Prop, P false δ → c δ P D.ex) (q : D.nx δ) : wIfS c u wNext δ D := h (fun b δ1 => if b = true then u δ1 D else wNext δ1 D) (iteF q)
theorem for_keepR {set : PyData → DS → Option DS} {body : WS} {D : WEnds} {L : List PyData} (I : DS → Prop) (δ : DS) (hi : I δ) (h0 : ∀ δ, I δ → D.nx δ)
    (hs : ∀ x ∈ L, ∀ δ, I δ → ∀ xs : List PyData, (∀ δ', I δ' → wForL set body xs δ' D) → ∃ δ1, set x δ = some δ1 ∧ body δ1 { D with nx := fun δ' => wForL set body xs δ' D, ct := fun δ' => wForL set body xs δ' D, bk := D.nx }) :
    wForL set body L δ D := by
  have := for_keep (g := fun x : PyData => x) (set := set) (body := body) (D := D) I L δ hi h0 fun x hx δ h xs k => by
    have := hs x hx δ h (xs.map fun x => x) k
    exact this
  rwa [List.map_id'] at this
theorem at_last {xs : List PyData} {x : PyData} (h : xs.getLast? = some x) : ixD (.list xs) (.int (-1)) = some x := by
  have h1 : xs ≠ [] := by
    rintro rfl
    cases h
  have h2 : 0 < xs.length := List.length_pos_iff.mpr h1
  simp only [ixD, atI, ixN]
  rw [if_neg (by omega), if_pos (by omega)]
  rw [List.getLast?_eq_getElem?] at h
  simp only [Option.bind_some]
  rw [show ((-1 : Int) + (xs.length : Int)).toNat = xs.length - 1 by omega]
  exact h
theorem at_get {xs : List PyData} {i : Int} {x : PyData} (h0 : 0 ≤ i) (h : xs[i.toNat]? = some x) : ixD (.list xs) (.int i) = some x := by
  have := (List.getElem?_eq_some_iff.mp h).1
  simp only [ixD, atI, ixN]
  rw [if_pos h0, if_pos (by omega)]
  exact h
theorem at_getT {xs : List PyData} {i : Int} {x : PyData} (h0 : 0 ≤ i) (h : xs[i.toNat]? = some x) : ixD (.tuple xs) (.int i) = some x := by
  have := (List.getElem?_eq_some_iff.mp h).1
  simp only [ixD, atI, ixN]
  rw [if_pos h0, if_pos (by omega)]
  exact h
theorem cutD_eq (xs : List PyData) (lo hi : Option Int) : cutD xs lo hi = cut xs lo hi := rfl
theorem slL_to {xs : List PyData} {k : Int} (h0 : 0 ≤ k) : slD (.list xs) none (some k) = some (.list (xs.take k.toNat)) := by
  show some (PyData.list (cut xs none (some k))) = _
  rw [cut_to xs (j := k.toNat) (by omega)]
theorem slL_from {xs : List PyData} {k : Int} (h0 : 0 ≤ k) : slD (.list xs) (some k) none = some (.list (xs.drop k.toNat)) := by
  show some (PyData.list (cut xs (some k) none)) = _
  rw [cut_from xs (j := k.toNat) (by omega)]
theorem cut_init {α : Type} (l : List α) : cut l none (some (-1)) = l.take (l.length - 1) := by
  unfold cut
  simp only [HT.sIx]
  rw [if_pos (by omega), List.drop_zero]
  congr 1
  omega
theorem slL_init (xs : List PyData) : slD (.list xs) none (some (-1)) = some (.list (xs.take (xs.length - 1))) := by
  show some (PyData.list (cut xs none (some (-1)))) = _
  rw [cut_init]
theorem cut_mid {α : Type} (l : List α) : cut l (some 1) (some (-1)) = (l.take (l.length - 1)).drop 1 := by
  have e1 : HT.sIx l.length 0 (some 1) = min 1 l.length := HT.sIx_nat _ _ 1
  have e2 : HT.sIx l.length l.length (some (-1)) = l.length - 1 := by
    show (if (-1 : Int) < 0 then ((-1 : Int) + (l.length : Int)).toNat else min (-1 : Int).toNat l.length) = l.length - 1
    rw [if_pos (by decide)]
    omega
  unfold cut
  rw [e1, e2]
  rcases l with _ | ⟨x, l⟩
  · rfl
  · rw [show min 1 (x :: l).length = 1 by simp, List.drop_take]
theorem slL_mid (xs : List PyData) : slD (.list xs) (some 1) (some (-1)) = some (.list ((xs.take (xs.length - 1)).drop 1)) := by
  show some (PyData.list (cut xs (some 1) (some (-1)))) = _
  rw [cut_mid]
theorem sl_init {l : List Nat} (h : l.length ≤ 100000) : slD (S l) none (some (-1)) = some (S (l.take (l.length - 1))) := by
  rw [sl_S h, cut_init]
theorem rev_L (xs : List PyData) : revD (.list xs) = some (.list xs.reverse) := rfl
/-! calls with the script and the town -/
theorem exCT {δ : DS} {ns : List Int} {k : OK} {zs : List PyData} {P : List Int → OK → List PyData → Prop} (h0 : δ[0]? = some (.scr ns)) (h1 : δ[1]? = some (.own k)) (h2 : twn? k = some zs) (q : P ns k zs) : ∃ ns k zs, δ[0]? = some (.scr ns) ∧ δ[1]? = some (.own k) ∧ twn? k = some zs ∧ P ns k zs := ⟨ns, k, zs, h0, h1, h2, q⟩
theorem exCT0 {δ : DS} {P : List Int → OK → List PyData → Prop} (h : ∃ ns k zs, δ[0]? = some (.scr ns) ∧ δ[1]? = some (.own k) ∧ twn? k = some zs ∧ P ns k zs) : ∃ ns k zs, δ[0]? = some (.scr ns) ∧ δ[1]? = some (.own k) ∧ twn? k = some zs ∧ P ns k zs := h
end RD

/-! The data layer, part q: dicts with tuples of numbers as keys. -/
namespace RD
open PySem PySem.Spec PyProof.Rows L2
section
variable {X : Cx} {W : WX} {a b c e o : Expr} {es : List Expr} {pos p ps : Pos} {wa wb wc we : WE} {wr : WA} {st : Stmt}
abbrev tupE (t : List Int) : PyData := .tuple (t.map PyData.int)
abbrev keyT (t : List Int) : List Key := t.map Sum.inl
/-- d[a tuple of numbers] = True -/
def wPutT (i : Nat) (w : WE) : WS := fun δ D => (∃ ks, δ[i]? = some (.own (.dt ks))) ∧ w δ (fun k δ2 => ∃ t ks, k = tupE t ∧ δ2[i]? = some (.own (.dt ks)) ∧ ks.length < sizeLine ∧ D.nx (δ2.set i (.own (.dt (putK ks (keyT t) (.bl true)))))) D.ex
theorem wPutT_mono {i : Nat} (h : MonoE we) : MonoS (wPutT i we) := fun δ D D' l ⟨h0, hh⟩ => ⟨h0, h _ _ _ _ _ (fun k δ2 ⟨z, ks, y1, y2, y3, y4⟩ => ⟨z, ks, y1, y2, y3, l.nx _ y4⟩) l.ex hh⟩
theorem dq_ints {G : Hp} : ∀ {vs : List V} {t : List Int}, DqAll G vs (t.map PyData.int) → vs = t.map V.int
  | _, [], h => by cases h; rfl
  | _, i :: t, h => by
    cases h with
    | cons h1 h2 =>
      cases h1
      rw [dq_ints h2]
      rfl
theorem ints_dq {G : Hp} : ∀ t : List Int, DqAll G (t.map V.int) (t.map PyData.int)
  | [] => .nil
  | i :: t => .cons (.int i) (ints_dq t)
theorem kV_ints (t : List Int) : (keyT t).map kV = t.map V.int := by simp [keyT, kV]
theorem ds_putT {i : Nat} {ix : Expr} (hi : DE X W ix we) (p1 : PS X st (tAsg (tC (.bl true)) (gSub (tVar i) (tD X.K W we) rSetD))) : DSt X W st (wPutT i we) := by
  refine ⟨ps_imp p1 fun D σ H hh => ?_, wPutT_mono hi.mono⟩
  obtain ⟨B, G, F, δ, R, ⟨ks0, e0⟩, hh⟩ := hh
  obtain ⟨q, ob, ep, _, _, hp, ho⟩ := R.own e0
  refine ⟨_, ep, B, G, F, δ, R, hi.mono _ _ _ _ _ (fun k δ2 h2 => ?_) xL_of hh⟩
  intro G2 H2 v2 g2 R2 d2
  obtain ⟨t, ks, rfl, e1, hl, h3⟩ := h2
  obtain ⟨q', ob', ep', _, _, hp', ho'⟩ := R2.own e1
  rw [ep] at ep'
  cases ep'
  cases ho'
  cases d2 with
  | tup hb hx =>
    have e := dq_ints hx
    subst e
    exact ⟨q, _, rfl, DPut.t (k := keyT t) hp' (by rw [kV_ints]; exact R2.g _ _ hb) hl, h3 G2 σ _ g2 (R2.mut e1 ep rfl)⟩
theorem st_putT {i : Nat} {ix : Expr} {k : Nat} {pv : Pos} (hu : X.A.units + 1 < cLine) (hi : DE X W ix we) (hg : PG X (.Subscript o ix ps) (gSub (tVar i) (tD X.K W we) rSetD)) (hs : swapsWithSole [.Subscript o ix ps] (.Constant (.bool true) k pv) pos.line X.env = pure false := by rfl)
    (hw : swappedStores [.Subscript o ix ps] (.Constant (.bool true) k pv) X.env = pure none := by rfl) (h1 : (assignEach [.Subscript o ix ps] X.env).map (·.2) = [assign (.Subscript o ix ps) X.env] := by rfl) :
    DSt X W (.Assign [.Subscript o ix ps] (.Constant (.bool true) k pv) pos) (wPutT i we) := ds_putT hi (ps_asg pe_bl hg hs hw h1)
/-! sorted(d) -/
abbrev leT (x y : List Int) : Bool := PySem.W.dataLe false tupE x y
theorem keys_pairs {H : Hp} : ∀ {kvs : List (List Key × V)} {ks : List (List Key × Addr × Value)} {ts : List (List Int)}, Paired (fun (p : List Key × V) (q : List Key × Addr × Value) => p.1 = q.1 ∧ H q.2.1 = some (.tup (p.1.map kV)) ∧ RelV p.2 q.2.2) kvs ks → kvs.map (·.1) = ts.map keyT →
    ∃ bs : List (Addr × List Int), (ks.map fun x => Value.ref x.2.1) = bs.map (fun b => Value.ref b.1) ∧ bs.map (·.2) = ts ∧ ∀ b ∈ bs, H b.1 = some (.tup (b.2.map V.int))
  | _, _, ts, .nil, e => by
    cases ts with
    | nil => exact ⟨[], rfl, rfl, (fun b hb => by cases hb)⟩
    | cons t ts => cases e
  | _, _, ts, .cons (a := p) (b := q) h t, e => by
    cases ts with
    | nil => cases e
    | cons t0 ts =>
      rw [List.map_cons, List.map_cons] at e
      injection e with e1 e2
      obtain ⟨bs, h1, h2, h3⟩ := keys_pairs t e2
      refine ⟨(q.2.1, t0) :: bs, by rw [List.map_cons, List.map_cons, h1], by rw [List.map_cons, h2], fun b hb => ?_⟩
      rcases List.mem_cons.mp hb with z | z
      · subst z
        have := h.2.1
        rw [e1, kV_ints] at this
        exact this
      · exact h3 b z
theorem ints_reads {h : Heap} : ∀ {t : List Int} {its : List Value}, Vals (t.map V.int) its → ReadsAll h its (t.map PyData.int) []
  | [], _, r => by
    cases r
    exact .nil
  | i :: t, _, r => by
    cases r with
    | cons h1 h2 =>
      obtain ⟨tk, rfl⟩ := h1
      exact ReadsAll.cons (as := []) (bs := []) (.int i tk) (ints_reads h2)
theorem cr_sortDt (hc : X.calm = true) {k : Nat} (hr : Room k X.A) : CallR X (.builtin "sorted") (fun xs H Q => ∃ (a : Addr) (kvs : List (List Key × V)) (ts : List (List Int)), xs = [.ref a] ∧ Rd H a (.dT kvs) ∧ kvs.map (·.1) = ts.map keyT ∧ (∀ t ∈ ts, t ≠ []) ∧
    ∀ q (bs : List (Addr × List Int)), H q = none → (∀ b ∈ bs, H b.1 = some (.tup (b.2.map V.int))) → bs.map (·.2) = ts.mergeSort leT → Q (.ref q) (upd H q (.lst (bs.map fun b => V.ref b.1)))) := by
  rintro pins s σ H xs us Q I r ⟨a, kvs, ts, rfl, hd, hks, hne, q⟩
  obtain ⟨u, rfl, rx⟩ := vals1 r
  cases rx
  obtain ⟨z, hs, ks, pr, ob, es, ep, ho, hx, hdt, he, hn⟩ := (show ObjOk X.prog X.w H s.heap a (.dT kvs) from hd.ok I.hok)
  have l1 : es.size = ks.length := size_of_entries he
  have l2 : kvs.length = ks.length := Paired.length pr
  have room := hr.un
  refine Calls.call_function_entry kind_sorted plain_sorted entry_sorted (args_sorted1 _) ?_
  unfold Builtin.«sorted»
  refine wpAny_bind (m := checkCount "sorted" 1 1 _) (wpAny_pure (wpAny_bind ?_))
  refine PySem.W.kdu_collect (A := X.A.in1) (kdl_raw hs hx hdt) (I.ok.hd hc) ho (by omega) fun h' tk acc' hk it => ?_
  have ea : acc'.toList = ks.map fun x => Value.ref x.2.1 := by
    have hl : acc'.toList.length = ks.length := by rw [Array.length_toList, it.1]; exact l1
    apply List.ext_getElem?
    intro j
    rw [List.getElem?_map]
    cases hj : acc'.toList[j]? with
    | none =>
      have h1 := List.getElem?_eq_none_iff.mp hj
      rw [List.getElem?_eq_none (by omega)]
      all_goals rfl
    | some v =>
      obtain ⟨en, hen, hv⟩ := it.2 j v (by rw [← Array.getElem?_toList]; exact hj)
      have qe := entry_at he j
      rw [hen] at qe
      cases hb : ks[j]? with
      | none =>
        rw [hb] at qe
        exact nomatch (show some en = none from qe)
      | some b =>
        rw [hb] at qe
        have e2 : en = entryOfKey (tupleKind (mixKind X.prog X.w)) b := Option.some.inj qe
        rw [hv, e2]
        all_goals rfl
  obtain ⟨bs, b1, b2, b3⟩ := keys_pairs pr hks
  have lb : bs.length = ks.length := by simpa using (congrArg List.length b1).symm
  have I1 : Inv X pins σ H { s with heap := h', toks := tk } := I.kept hk
  have at1 : (h'.push (seqObj "list" acc'.toList.toArray 0)).get? h'.objs.size = some (seqObj "list" acc'.toList.toArray 0) := Heap.get?_push_size _ rfl
  have each : PySem.W.EachIs (fun u (z : Addr × List Int) => u = Value.ref z.1 ∧ H z.1 = some (.tup (z.2.map V.int))) acc'.toList bs := by
    rw [ea, b1]
    clear b1 b2 lb ea
    induction bs with
    | nil => exact .nil
    | cons b bs ih => exact .cons ⟨rfl, b3 b List.mem_cons_self⟩ (ih fun x hx => b3 x (List.mem_cons_of_mem _ hx))
  refine wpAny_bind (wpAny_newList ?_ (by rw [Array.length_toList, it.1]; omega))
  show wpAny _ _ _ _ _ { s with heap := h'.push (seqObj "list" acc'.toList.toArray 0), toks := tk }
  have old : ∀ b o, h'.get? b = some o → (h'.push (seqObj "list" acc'.toList.toArray 0)).get? b = some o := fun b o e => Heap.get?_push_of_some _ e
  have er : PySem.W.EachIs (fun v (z : Addr × List Int) => ∃ as, Reads (h'.push (seqObj "list" acc'.toList.toArray 0)) v (tupE z.2) as ∧ h'.objs.size ∉ as) acc'.toList bs := by
    have tr : ∀ b t, H b = some (.tup (t.map V.int)) → Reads (h'.push (seqObj "list" acc'.toList.toArray 0)) (.ref b) (tupE t) [] := fun b t hb => by
      obtain ⟨_, its, rv, ob2, g1, g2, n, g3⟩ := (show ObjOk X.prog X.w H h' b (.tup (t.map V.int)) from I1.hok b _ hb)
      exact .tuple (old _ _ g1) g2 g3 (by simpa using ints_reads rv)
    clear b1 b2 lb ea at1 old it
    generalize h'.push (seqObj "list" acc'.toList.toArray 0) = h2' at tr ⊢
    generalize acc'.toList = us at each
    induction each with
    | nil => exact .nil
    | cons h t ih =>
      obtain ⟨rfl, h2⟩ := h
      exact .cons ⟨[], tr _ _ h2, by simp⟩ (ih (fun b hb => b3 b (List.mem_cons_of_mem _ hb)))
  refine wpAny_bind (wpAny_holding (PySem.W.list_sort_data (enc := fun z : Addr × List Int => tupE z.2) at1 each er (PySem.W.AllAlike.of fun x y => ?_) (.inl fun d hd => ?_) (by omega) (fun z _ => ?_) fun out ho2 he2 => ?_))
  · simp only [tupE, PySem.W.alike]
    exact PySem.W.alike_ints _ _
  · obtain ⟨z, hz2, rfl⟩ := List.mem_map.mp hd
    have hm : z.2 ∈ ts := by
      rw [← b2]
      exact List.mem_map_of_mem hz2
    cases hz3 : z.2 with
    | nil => exact absurd hz3 (hne _ hm)
    | cons i t => exact ⟨.int i, t.map .int, rfl⟩
  · show X.A.units + 1 + 1 + (tupE z.2).depth < cLine
    simp only [tupE, PyData.depth, PySem.W.depth_ints]
    omega
  · obtain ⟨e', he'⟩ := sortedHeap_at (vs := acc'.toList) (out := out.toArray) at1
    have fr : H h'.objs.size = none := I1.hok.fresh (Nat.le_refl _)
    have em : (bs.mergeSort (PySem.W.dataLe false fun z : Addr × List Int => tupE z.2)).map (·.2) = ts.mergeSort leT := by
      rw [← b2]
      exact List.map_mergeSort (r := PySem.W.dataLe false fun z : Addr × List Int => tupE z.2) (s := leT) (f := fun b : Addr × List Int => b.2) fun _ _ _ _ => rfl
    have hmem : ∀ b ∈ bs.mergeSort (PySem.W.dataLe false fun z : Addr × List Int => tupE z.2), H b.1 = some (.tup (b.2.map V.int)) := fun b hb => b3 b ((List.mergeSort_perm _ _).mem_iff.mp hb)
    generalize bs.mergeSort (PySem.W.dataLe false fun z : Addr × List Int => tupE z.2) = cs at em hmem he2
    have hcl : cs.length = ks.length := by rw [← he2.length, ho2, lb]
    have hlen : (cs.map fun b => V.ref b.1).length ≤ sizeLine := by
      rw [List.length_map]
      omega
    have hv : Vals (cs.map fun b => V.ref b.1) out := by
      clear hmem em hcl hlen he' ho2
      induction he2 with
      | nil => exact .nil
      | cons h t ih => exact .cons (by rw [h.1]; rfl) ih
    refine wpAny_pure ⟨_, rfl, .ref h'.objs.size, upd H h'.objs.size (.lst (cs.map fun b => V.ref b.1)), I1.laid (t' := tk) (fun b u e => ?_) (Nat.le_refl _) ⟨hlen, out, e', hv, he'⟩, rfl, q _ cs fr hmem em⟩
    have hb : b < h'.objs.size := Heap.lt_size e
    rw [sortedHeap_old (Nat.ne_of_lt hb) (by rw [size_push']; exact Nat.lt_succ_of_lt hb)]
    exact Heap.get?_push_of_some _ e
/-- the frozen part with all tuples -/
def withT (G H : Hp) : Hp := fun a => match G a with
  | some o => some o
  | none => match H a with
    | some (.tup xs) => some (.tup xs)
    | _ => none
theorem Gw.tups {G H : Hp} (s : Same G H) : Gw G H (withT G H) H := by
  refine ⟨Same.refl H, fun a o e => by simp only [withT, e], fun a o e => ?_, fun a m hg => ?_⟩
  · unfold withT at e
    cases hg : G a with
    | some u =>
      rw [hg] at e
      cases e
      exact s a _ hg
    | none =>
      rw [hg] at e
      cases hh : H a with
      | none =>
        rw [hh] at e
        cases e
      | some u =>
        rw [hh] at e
        cases u <;> cases e <;> rfl
  · obtain ⟨u, h1, h2⟩ := m
    simp only [withT, hg, h1]
    cases u <;> first | rfl | exact absurd rfl (h2 _)
theorem withT_tup {G H : Hp} (s : Same G H) {a : Addr} {xs : List V} (h : H a = some (.tup xs)) : withT G H a = some (.tup xs) := by
  unfold withT
  cases hg : G a with
  | some u =>
    have := s a u hg
    rw [h] at this
    cases this
    rfl
  | none => simp only [h]
theorem dq_tups {G : Hp} : ∀ (bs : List (Addr × List Int)), (∀ b ∈ bs, G b.1 = some (.tup (b.2.map V.int))) → DqAll G (bs.map fun b => V.ref b.1) ((bs.map (·.2)).map tupE)
  | [], _ => .nil
  | b :: bs, h => .cons (.tup (h b List.mem_cons_self) (ints_dq b.2)) (dq_tups bs fun x hx => h x (List.mem_cons_of_mem _ hx))
def wSortT (i : Nat) : WE := fun δ Q _ => ∃ (ks : List (List Key × V)) (ts : List (List Int)), δ[i]? = some (.own (.dt ks)) ∧ ks.map (·.1) = ts.map keyT ∧ (∀ t ∈ ts, t ≠ []) ∧ Q (.list ((ts.mergeSort leT).map tupE)) δ
theorem wSortT_mono (i : Nat) : MonoE (wSortT i) := fun _ _ _ _ _ hq _ ⟨ks, zs, h1, h2, h3, h4⟩ => ⟨ks, zs, h1, h2, h3, hq _ _ h4⟩
theorem de_sortDt {i k : Nat} (hc : X.calm = true) (hr : Room k X.A) (hm : X.mg "sorted" = none) (ho : PE X o (tVar i)) (hg : Gl X "sorted" := by rfl) (hs : starEach [o] X.env = (false, eval o X.env) :: starEach [] X.env := by rfl) :
    DE X W (.Call (.Name "sorted" p) [o] [] pos) (wSortT i) := by
  refine ⟨pe_imp (pe_callB (cr_sortDt hc hr) hg hm (by decide +kernel) (pa_cons ho pa_nil hs) (by decide) (by decide) hs rfl) fun σ H Q hh => ?_, wSortT_mono i⟩
  obtain ⟨B, G, F, δ, R, ks, ts, e1, e2, e3, hq⟩ := hh
  obtain ⟨q0, ob, ep, _, _, hp, hob⟩ := R.own e1
  cases hob
  refine ⟨_, ep, q0, ks, ts, rfl, .inl hp, e2, e3, fun q bs hn hb hms => ?_⟩
  have wt := Gw.tups R.g
  have w0 := wt.trans (Gw.new (o := .lst (bs.map fun b => V.ref b.1)) wt.gh hn)
  refine hq _ _ _ (w0.gr R.f) (R.gw w0) (.lst upd_same ?_)
  rw [← hms]
  refine dpAll_same (same_new (wt.gh.free hn)) (dq_tups bs fun b hb2 => withT_tup R.g (hb b hb2))
end
end RD

/-! The data layer, part r: two new objects at once; list(range(..)), list(text), sum, enumerate. -/
namespace RD
open PySem PySem.Spec PyProof.Rows L2
section
variable {X : Cx} {W : WX} {a b c e o : Expr} {es : List Expr} {pos p ps : Pos} {wa wb wc we : WE} {wr : WA} {st : Stmt} {na nb : WN}
/-- two things one after the other, the first a new object -/
def wNN (na nb : WN) : DS → (OK → OK → DS → Prop) → XC → Prop := fun δ Q E => na δ (fun k1 δ1 => nb δ1 (fun k2 δ2 => Q k1 k2 δ2) E) E
def wND (na : WN) (wb : WE) : DS → (OK → PyData → DS → Prop) → XC → Prop := fun δ Q E => na δ (fun k1 δ1 => wb δ1 (fun x δ2 => Q k1 x δ2) E) E
theorem wNN_mono (ha : MonoE na) (hb : MonoE nb) {δ : DS} {Q Q' : OK → OK → DS → Prop} {E E' : XC} (hq : ∀ k1 k2 δ, Q k1 k2 δ → Q' k1 k2 δ) (he : ∀ c δ, E c δ → E' c δ) (h : wNN na nb δ Q E) : wNN na nb δ Q' E' :=
  ha _ _ _ _ _ (fun k1 δ1 h1 => hb _ _ _ _ _ (fun k2 δ2 h2 => hq _ _ _ h2) he h1) he h
theorem wND_mono (ha : MonoE na) (hb : MonoE wb) {δ : DS} {Q Q' : OK → PyData → DS → Prop} {E E' : XC} (hq : ∀ k1 x δ, Q k1 x δ → Q' k1 x δ) (he : ∀ c δ, E c δ → E' c δ) (h : wND na wb δ Q E) : wND na wb δ Q' E' :=
  ha _ _ _ _ _ (fun k1 δ1 h1 => hb _ _ _ _ _ (fun k2 δ2 h2 => hq _ _ _ h2) he h1) he h
theorem own_not {G H : Hp} {q : Addr} {o : HO} {k : OK} (h : OwnIs G q o k) : ∀ xs, o ≠ .tup xs := fun xs z => by
  obtain ⟨u, h1, h2⟩ := h.mu (H := upd (fun _ => none) q o) upd_same
  rw [upd_same] at h1
  cases h1
  exact h2 xs z
/-- the two objects, loose -/
theorem run_NN {K : PySem.W.Frag} (mb : MonoE nb) (ma : MonoE na) {σ : L2.St} {H : Hp} {Q : List V → Hp → Prop} {B G F : Hp} {δ : DS} (R : Rel K B G F δ σ H)
    (h : wNN na nb δ (fun k1 k2 δ' => ∀ G' H' q1 q2 o1 o2, Gr F G G' → Rel K B G' F δ' σ H' → G' q1 = none → G' q2 = none → F q1 = none → F q2 = none → q1 ≠ q2 → Loose δ' σ q1 → Loose δ' σ q2 → H' q1 = some o1 → H' q2 = some o2 → OwnIs G' q1 o1 k1 → OwnIs G' q2 o2 k2 → Q [.ref q1, .ref q2] H') (xL K W B F G σ)) :
    tCons (tDN K W na) (tCons (tDN K W nb) tNil) σ H Q := by
  refine ⟨B, G, F, δ, R, ma _ _ _ _ _ (fun k1 δ1 h1 => ?_) (fun _ _ z => z) h⟩
  intro G1 H1 q1 o1 g1 R1 n1 n2 hl hq ho
  have nt := own_not (H := H1) ho
  refine ⟨B, G1, upd F q1 o1, δ1, R1.hold n2 hl hq, mb _ _ _ _ _ (fun k2 δ2 h2 => ?_) (fun cc δ2 h2 => ?_) h1⟩
  · intro G2 H2 q2 o2 g2 R2 m1 m2 hl2 hq2 ho2
    obtain ⟨g3, n3⟩ := g2.held n1 n2 nt
    obtain ⟨R3, l3, e3⟩ := R2.letGo R1.b n2
    have hne : q1 ≠ q2 := fun z => by
      subst z
      rw [upd_same] at m2
      cases m2
    refine h2 G2 H2 q1 q2 o1 o2 (g1.trans g3) R3 n3 m1 n2 ?_ hne l3 hl2 e3 hq2 (ho.grow g3.g) ho2
    rwa [upd_ne (Ne.symm hne)] at m2
  · intro G2 H2 g2 R2
    obtain ⟨g3, n3⟩ := g2.held n1 n2 nt
    obtain ⟨R3, l3, e3⟩ := R2.letGo R1.b n2
    exact h2 G2 H2 (g1.trans g3) R3
theorem run_ND {K : PySem.W.Frag} (mb : MonoE wb) (ma : MonoE na) {σ : L2.St} {H : Hp} {Q : List V → Hp → Prop} {B G F : Hp} {δ : DS} (R : Rel K B G F δ σ H)
    (h : wND na wb δ (fun k1 x δ' => ∀ G' H' q1 v o1, Gr F G G' → Rel K B G' F δ' σ H' → G' q1 = none → F q1 = none → Loose δ' σ q1 → H' q1 = some o1 → OwnIs G' q1 o1 k1 → Dq G' v x → Q [.ref q1, v] H') (xL K W B F G σ)) :
    tCons (tDN K W na) (tCons (tD K W wb) tNil) σ H Q := by
  refine ⟨B, G, F, δ, R, ma _ _ _ _ _ (fun k1 δ1 h1 => ?_) (fun _ _ z => z) h⟩
  intro G1 H1 q1 o1 g1 R1 n1 n2 hl hq ho
  have nt := own_not (H := H1) ho
  refine ⟨B, G1, upd F q1 o1, δ1, R1.hold n2 hl hq, mb _ _ _ _ _ (fun x δ2 h2 => ?_) (fun cc δ2 h2 => ?_) h1⟩
  · intro G2 H2 v g2 R2 d2
    obtain ⟨g3, n3⟩ := g2.held n1 n2 nt
    obtain ⟨R3, l3, e3⟩ := R2.letGo R1.b n2
    exact h2 G2 H2 q1 v o1 (g1.trans g3) R3 n3 n2 l3 e3 (ho.grow g3.g) d2
  · intro G2 H2 g2 R2
    obtain ⟨g3, n3⟩ := g2.held n1 n2 nt
    obtain ⟨R3, l3, e3⟩ := R2.letGo R1.b n2
    exact h2 G2 H2 (g1.trans g3) R3
theorem loose_set {δ : DS} {σ : L2.St} {i : Nat} {k : OK} {q q2 : Addr} (h : Loose δ σ q2) (hne : q ≠ q2) : Loose (δ.set i (.own k)) (σ.set i (some (.ref q))) q2 := fun m k' em es => by
  by_cases hm : i = m
  · subst hm
    by_cases hi : i < σ.length
    · rw [List.getElem?_set_self hi] at es
      injection es with es
      injection es with es
      injection es with es
      exact hne es
    · rw [List.getElem?_eq_none_iff.mpr (by simp; omega)] at es
      cases es
  · rw [List.getElem?_set_ne hm] at em es
    exact h m k' em es
/-- x, y = e1, e2: two new objects -/
def wParNN (i j : Nat) (na nb : WN) : WS := fun δ D => wNN na nb δ (fun k1 k2 δ' => D.nx ((δ'.set i (.own k1)).set j (.own k2))) D.ex
def wParND (i j : Nat) (na : WN) (wb : WE) : WS := fun δ D => wND na wb δ (fun k1 x δ' => D.nx ((δ'.set i (.own k1)).set j (.d x))) D.ex
theorem wParNN_mono {i j : Nat} (ha : MonoE na) (hb : MonoE nb) : MonoS (wParNN i j na nb) := fun δ D D' l h => wNN_mono ha hb (fun _ _ _ z => l.nx _ z) l.ex h
theorem wParND_mono {i j : Nat} (ha : MonoE na) (hb : MonoE wb) : MonoS (wParND i j na wb) := fun δ D D' l h => wND_mono ha hb (fun _ _ _ z => l.nx _ z) l.ex h
theorem ds_parNN {i j : Nat} (h1 : DN X W a na) (h2 : DN X W b nb) (p1 : PS X st (tPar i j (tCons (tDN X.K W na) (tCons (tDN X.K W nb) tNil)))) : DSt X W st (wParNN i j na nb) := by
  refine ⟨ps_imp p1 fun D σ H hh => ?_, wParNN_mono h1.mono h2.mono⟩
  obtain ⟨B, G, F, δ, R, hh⟩ := hh
  refine run_NN h2.mono h1.mono R (wNN_mono h1.mono h2.mono (fun k1 k2 δ' z => ?_) xL_of hh)
  intro G' H' q1 q2 o1 o2 g R' n1 n2 f1 f2 hne l1 l2 e1 e2 w1 w2
  refine ⟨_, _, rfl, z G' _ H' g ?_⟩
  exact (R'.setO n1 f1 e1 w1 l1).setO n2 f2 e2 w2 (loose_set l2 hne)
theorem ds_parND {i j : Nat} (h1 : DN X W a na) (h2 : DE X W b wb) (p1 : PS X st (tPar i j (tCons (tDN X.K W na) (tCons (tD X.K W wb) tNil)))) : DSt X W st (wParND i j na wb) := by
  refine ⟨ps_imp p1 fun D σ H hh => ?_, wParND_mono h1.mono h2.mono⟩
  obtain ⟨B, G, F, δ, R, hh⟩ := hh
  refine run_ND h2.mono h1.mono R (wND_mono h1.mono h2.mono (fun k1 k2 δ' z => ?_) xL_of hh)
  intro G' H' q1 v o1 g R' n1 f1 l1 e1 w1 dv
  exact ⟨_, _, rfl, z G' _ H' g ((R'.setO n1 f1 e1 w1 l1).setD dv)⟩
section
variable {i j : Nat} {x y : Str} {px py pt : Pos} {kt k2 pt2}
theorem st_parNN (hc : X.calm = true) (hN : X.N.Nodup) (hi : X.N[i]? = some x) (hj : X.N[j]? = some y) (hij : i ≠ j) (hx : X.env.scope.names.lookup x = some .local) (hy : X.env.scope.names.lookup y = some .local) (h1 : DN X W a na) (h2 : DN X W b nb)
    (hw : swappedStores [.Tuple [.Name x px, .Name y py] kt pt] (.Tuple [a, b] k2 pt2) X.env = pure (some [x, y]) := by rfl) (hs : swapsWithSole [.Tuple [.Name x px, .Name y py] kt pt] (.Tuple [a, b] k2 pt2) pos.line X.env = pure false := by rfl)
    (s1 : starEach [a, b] X.env = (false, eval a X.env) :: starEach [b] X.env := by rfl) (s2 : starEach [b] X.env = (false, eval b X.env) :: starEach [] X.env := by rfl) :
    DSt X W (.Assign [.Tuple [.Name x px, .Name y py] kt pt] (.Tuple [a, b] k2 pt2) pos) (wParNN i j na nb) := ds_parNN h1 h2 (ps_par hc hN hi hj hij hx hy (pa_cons h1.pe (pa_cons h2.pe pa_nil s2) s1) hw hs)
theorem st_parND (hc : X.calm = true) (hN : X.N.Nodup) (hi : X.N[i]? = some x) (hj : X.N[j]? = some y) (hij : i ≠ j) (hx : X.env.scope.names.lookup x = some .local) (hy : X.env.scope.names.lookup y = some .local) (h1 : DN X W a na) (h2 : DE X W b wb)
    (hw : swappedStores [.Tuple [.Name x px, .Name y py] kt pt] (.Tuple [a, b] k2 pt2) X.env = pure (some [x, y]) := by rfl) (hs : swapsWithSole [.Tuple [.Name x px, .Name y py] kt pt] (.Tuple [a, b] k2 pt2) pos.line X.env = pure false := by rfl)
    (s1 : starEach [a, b] X.env = (false, eval a X.env) :: starEach [b] X.env := by rfl) (s2 : starEach [b] X.env = (false, eval b X.env) :: starEach [] X.env := by rfl) :
    DSt X W (.Assign [.Tuple [.Name x px, .Name y py] kt pt] (.Tuple [a, b] k2 pt2) pos) (wParND i j na wb) := ds_parND h1 h2 (ps_par hc hN hi hj hij hx hy (pa_cons h1.pe (pa_cons h2.pe pa_nil s2) s1) hw hs)
end
/-- the same by a tuple that is made and taken apart (a name is a cell) -/
theorem ds_tupNN {i j : Nat} (h1 : DN X W a na) (h2 : DN X W b nb) (p1 : PS X st (tAsg (tTup (tCons (tDN X.K W na) (tCons (tDN X.K W nb) tNil))) (gTup X.K 2 (gCons (gName i) (gCons (gName j) gNil))))) : DSt X W st (wParNN i j na nb) := by
  refine ⟨ps_imp p1 fun D σ H hh => ?_, wParNN_mono h1.mono h2.mono⟩
  obtain ⟨B, G, F, δ, R, hh⟩ := hh
  unfold tAsg tTup
  refine run_NN h2.mono h1.mono R (wNN_mono h1.mono h2.mono (fun k1 k2 δ' z => ?_) xL_of hh)
  intro G' H' q1 q2 o1 o2 g R' n1 n2 f1 f2 hne l1 l2 e1 e2 w1 w2
  refine ⟨by show 2 ≤ sizeLine; decide, fun T hT => ?_⟩
  have sm := same_new (o := .tup [V.ref q1, V.ref q2]) hT
  have R2 := R'.heap sm
  refine ⟨_, _, rfl, SqT.of upd_same, rfl, _, _, rfl, _, _, rfl, rfl, ?_⟩
  exact z G' _ _ g ((R2.setO n1 f1 (sm _ _ e1) w1 l1).setO n2 f2 (sm _ _ e2) w2 (loose_set l2 hne))
theorem ds_tupND {i j : Nat} (h1 : DN X W a na) (h2 : DE X W b wb) (p1 : PS X st (tAsg (tTup (tCons (tDN X.K W na) (tCons (tD X.K W wb) tNil))) (gTup X.K 2 (gCons (gName i) (gCons (gName j) gNil))))) : DSt X W st (wParND i j na wb) := by
  refine ⟨ps_imp p1 fun D σ H hh => ?_, wParND_mono h1.mono h2.mono⟩
  obtain ⟨B, G, F, δ, R, hh⟩ := hh
  unfold tAsg tTup
  refine run_ND h2.mono h1.mono R (wND_mono h1.mono h2.mono (fun k1 k2 δ' z => ?_) xL_of hh)
  intro G' H' q1 v o1 g R' n1 f1 l1 e1 w1 dv
  refine ⟨by show 2 ≤ sizeLine; decide, fun T hT => ?_⟩
  have sm := same_new (o := .tup [V.ref q1, v]) hT
  refine ⟨_, _, rfl, SqT.of upd_same, rfl, _, _, rfl, _, _, rfl, rfl, ?_⟩
  exact z G' _ _ g (((R'.heap sm).setO n1 f1 (sm _ _ e1) w1 l1).setD dv)
theorem st_tupNN {i j : Nat} {tg : Expr} {k2 pt2} (h1 : DN X W a na) (h2 : DN X W b nb) (hg : PG X tg (gTup X.K 2 (gCons (gName i) (gCons (gName j) gNil)))) (hs : swapsWithSole [tg] (.Tuple [a, b] k2 pt2) pos.line X.env = pure false := by rfl) (hw : swappedStores [tg] (.Tuple [a, b] k2 pt2) X.env = pure none := by rfl)
    (h0 : (assignEach [tg] X.env).map (·.2) = [assign tg X.env] := by rfl) (s1 : starEach [a, b] X.env = (false, eval a X.env) :: starEach [b] X.env := by rfl) (s2 : starEach [b] X.env = (false, eval b X.env) :: starEach [] X.env := by rfl) :
    DSt X W (.Assign [tg] (.Tuple [a, b] k2 pt2) pos) (wParNN i j na nb) := ds_tupNN h1 h2 (ps_asg (pe_tup (pa_cons h1.pe (pa_cons h2.pe pa_nil s2) s1)) hg hs hw h0)
theorem st_tupND {i j : Nat} {tg : Expr} {k2 pt2} (h1 : DN X W a na) (h2 : DE X W b wb) (hg : PG X tg (gTup X.K 2 (gCons (gName i) (gCons (gName j) gNil)))) (hs : swapsWithSole [tg] (.Tuple [a, b] k2 pt2) pos.line X.env = pure false := by rfl) (hw : swappedStores [tg] (.Tuple [a, b] k2 pt2) X.env = pure none := by rfl)
    (h0 : (assignEach [tg] X.env).map (·.2) = [assign tg X.env] := by rfl) (s1 : starEach [a, b] X.env = (false, eval a X.env) :: starEach [b] X.env := by rfl) (s2 : starEach [b] X.env = (false, eval b X.env) :: starEach [] X.env := by rfl) :
    DSt X W (.Assign [tg] (.Tuple [a, b] k2 pt2) pos) (wParND i j na wb) := ds_tupND h1 h2 (ps_asg (pe_tup (pa_cons h1.pe (pa_cons h2.pe pa_nil s2) s1)) hg hs hw h0)
/-! ### list(range(..)) -/
def rngC (i c : Int) (n : Nat) : List PyData := (List.range n).map fun k : Nat => PyData.int (i + (k : Int) * c)
theorem small_of {i j c : Int} (hi : fit62 i) (hj : fit62 j) (h0 : 0 < c) (h1 : c ≤ 1000000) : Builtin.Range.small i j c = true := by
  obtain ⟨a1, a2⟩ := hi
  obtain ⟨b1, b2⟩ := hj
  unfold Builtin.Range.small Builtin.Range.rangeSize
  simp only [Builtin.Range.rangeFitsLong, Bool.and_eq_true, Bool.or_eq_true, decide_eq_true_eq, beq_iff_eq, if_pos h0]
  split
  · rename_i hlt
    have hd : (j - i - 1) / c * c ≤ j - i - 1 := Int.ediv_mul_le _ (by omega)
    have hd0 : 0 ≤ (j - i - 1) / c := Int.ediv_nonneg (by omega) (by omega)
    have hd1 : (j - i - 1) / c ≤ j - i - 1 := Int.ediv_le_self _ (by omega)
    have e1 : ((j - i - 1) / c + 1) * c = (j - i - 1) / c * c + c := by rw [Int.add_mul, Int.one_mul]
    have e2 : ((j - i - 1) / c + 1 - 1) * c = (j - i - 1) / c * c := by rw [Int.add_sub_cancel]
    have hm : 0 ≤ (j - i - 1) / c * c := Int.mul_nonneg hd0 (by omega)
    generalize (j - i - 1) / c * c = m at *
    generalize (j - i - 1) / c = d at *
    first | omega | (simp only [e1, e2]; omega)
  · omega
def PRg3 (X : Cx) (e : Expr) (t : L2.St → Hp → (Int → Int → Int → Hp → Prop) → Prop) : Prop :=
  ∀ (pins : List (Addr × Obj)) (s : Shared) (σ : L2.St) (H : Hp) (Q : Int → Int → Int → Hp → Prop), Inv X pins σ H s → t σ H Q →
    wpAny (model X.prog X.w) X.A (eval e X.env) (fun x s' => ∃ r a b c t u v H', x = .ref r ∧ IsRange s'.heap r a b c t u v ∧ Inv X pins σ H' s' ∧ Q a b c H') X.xe s
def tRgA (ta : TA) : L2.St → Hp → (Int → Int → Int → Hp → Prop) → Prop := fun σ H Q => ta σ H fun vs H1 => ∃ i j c, vs = [.int i, .int j, .int c] ∧ c ≠ 0 ∧ c.natAbs < 1073741824 ∧ Q i j c H1
theorem prg_3 {ta : TA} {p pos : Pos} (hg : Gl X "range") (hm : X.mg "range" = none) (ha : PA X [a, b, c] ta) (hs : starEach [a, b, c] X.env = (false, eval a X.env) :: starEach [b, c] X.env := by rfl) (hpl : (backTo pos (starEach [b, c] X.env)).any (·.1) = false := by rfl) :
    PRg3 X (.Call (.Name "range" p) [a, b, c] [] pos) (tRgA ta) := by
  intro pins s σ H Q I h
  refine Call_ (ld_blt I hg hm boot_range (PyProof.Rows.callWith_type1 (thn (ha.run pos pins s σ H _ I h) fun us s1 got => ?_) hs hpl))
  obtain ⟨vs, H1, I1, r1, i, j, k, e, c0, c1, q⟩ := got
  subst e
  cases r1 with
  | cons ra rest =>
    obtain ⟨ub, uc, rfl, rb, rc⟩ := vals2 rest
    obtain ⟨t1, rfl⟩ := ra
    obtain ⟨t2, rfl⟩ := rb
    obtain ⟨t3, rfl⟩ := rc
    refine call_range_3 c0 ?_ (.inl (PyProof.noPylong_small c1))
    exact ⟨_, i, j, k, _, _, _, H1, rfl, IsRange.new .., I1.kept fun _ _ w => Heap.get?_push_of_some _ w, q⟩
theorem vals_rgC {i c : Int} {n : Nat} {acc : Array Value} (h : ItemsOf (fun k v => ∃ t, v = .int (i + k * c) t) acc n) : Vals ((List.range n).map fun k : Nat => V.int (i + (k : Int) * c)) acc.toList := by
  have e : acc.toList.length = n := by rw [Array.length_toList]; exact h.1
  rw [← e]
  refine vals_of_get acc.toList _ fun j u hj => ?_
  obtain ⟨t, rfl⟩ := h.2 j u (by rw [← hj, Array.getElem?_toList])
  exact ⟨t, rfl⟩
def tLstRgC (te : L2.St → Hp → (Int → Int → Int → Hp → Prop) → Prop) : TE := fun σ H Q => te σ H fun i j c H1 => ∃ n : Nat, Builtin.Range.small i j c = true ∧ Builtin.Range.rangeSize i j c = n ∧ n ≤ 2 ^ 24 ∧ ∀ q, H1 q = none → Q (.ref q) (upd H1 q (.lst ((List.range n).map fun k : Nat => V.int (i + (k : Int) * c))))
theorem pe_listRgC {te : L2.St → Hp → (Int → Int → Int → Hp → Prop) → Prop} {p pos : Pos} (hc : X.calm = true) (hg : Gl X "list") (hm : X.mg "list" = none) (he : PRg3 X e te) (ns : starEach [e] X.env = (false, eval e X.env) :: starEach [] X.env := by rfl) :
    PE X (.Call (.Name "list" p) [e] [] pos) (tLstRgC te) := by
  refine ⟨fun pins s σ H Q I h => ?_⟩
  refine Call_ (ld_blt I hg hm boot_list (PyProof.Rows.callWith_type1 (args_cons (thn (he pins s σ H _ I h) fun x s1 got => args_nil ?_) ns) ns))
  obtain ⟨r, i, j, k, t, u, v, H1, ex, hr, I1, n, h1, h2, h3, q⟩ := got
  subst ex
  refine call_list_range (n := n) (I1.ok.hd hc) hr h1 h2 h3 fun h' tk acc c' hk e' hi => ?_
  refine ⟨.ref s1.heap.objs.size, upd H1 s1.heap.objs.size (.lst ((List.range n).map fun k' : Nat => V.int (i + (k' : Int) * k))), I1.laid hk (Nat.le_refl _) ?_, rfl, q _ (I1.hok.fresh (Nat.le_refl _))⟩
  refine ⟨?_, acc.toList, c', vals_rgC hi, ?_⟩
  · rw [List.length_map, List.length_range, sizeLine_eq]
    omega
  · rw [Array.toArray_toList]
    exact e'
theorem dq_ofInts {G : Hp} {f : Nat → Int} : ∀ L : List Nat, DqAll G (L.map fun k => V.int (f k)) (L.map fun k => PyData.int (f k))
  | [] => .nil
  | k :: L => .cons (.int _) (dq_ofInts L)
/-- list(range(i, j)) -/
def wLstRg2 (w : WA) : WE := fun δ Q E => w δ (fun xs δ' => ∃ i j, xs = [.int i, .int j] ∧ fit62 i ∧ fit62 j ∧ (j - i).toNat ≤ 100000 ∧ Q (.list (rng i j)) δ') E
def wLstRg3 (w : WA) : WE := fun δ Q E => w δ (fun xs δ' => ∃ (i j c : Int) (n : Nat), xs = [.int i, .int j, .int c] ∧ fit62 i ∧ fit62 j ∧ 0 < c ∧ c ≤ 100000 ∧ Builtin.Range.rangeSize i j c = n ∧ n ≤ 100000 ∧ Q (.list (rngC i c n)) δ') E
theorem de_lstRg2 {p p2 pos2 : Pos} (hc : X.calm = true) (hm : X.mg "list" = none) (hm2 : X.mg "range" = none) (ha : DA X W [a, b] wr) (pa : PE X a (tD X.K W wa)) (pb : PE X b (tD X.K W wb)) (ma : MonoE wa) (mb : MonoE wb) (ew : wr = wCons wa (wCons wb wNil)) (hg : Gl X "list" := by rfl) (hg2 : Gl X "range" := by rfl)
    (ns : starEach [.Call (.Name "range" p2) [a, b] [] pos2] X.env = (false, eval (.Call (.Name "range" p2) [a, b] [] pos2) X.env) :: starEach [] X.env := by rfl)
    (n1 : starEach [a, b] X.env = (false, eval a X.env) :: starEach [b] X.env := by rfl) (n2 : starEach [b] X.env = (false, eval b X.env) :: starEach [] X.env := by rfl) (hp : (backTo pos2 (starEach [b] X.env)).any (·.1) = false := by rfl) :
    DE X W (.Call (.Name "list" p) [.Call (.Name "range" p2) [a, b] [] pos2] [] pos) (wLstRg2 wr) := by
  refine ⟨pe_imp (pe_listRg hc hg hm (prg_2 hg2 hm2 pa pb n1 n2 hp) ns) fun σ H Q hh => ?_, fun δ Q Q' E E' hq he h => ha.mono _ _ _ _ _ (fun xs δ1 hz => ?_) he h⟩
  · subst ew
    obtain ⟨B, G, F, δ, R, h⟩ := hh
    refine ⟨B, G, F, δ, R, ma _ _ _ _ _ (fun x δ1 h1 => ?_) (fun _ _ z => z) h⟩
    intro G1 H1 v1 g1 R1 d1
    refine ⟨B, G1, F, δ1, R1, mb _ _ _ _ _ (fun y δ2 h2 => ?_) (xL_up g1) h1⟩
    intro G2 H2 v2 g2 R2 d2
    obtain ⟨i, j, e1, fi, fj, hl, hq⟩ := h2
    injection e1 with e1 e2
    injection e2 with e2 _
    subst e1 e2
    cases d1
    cases d2
    refine ⟨i, j, rfl, rfl, ⟨fi.1, fi.2, fj.1, fj.2, by omega⟩, fun q hn => ?_⟩
    have w3 := Gw.new (o := .lst (rgV i j)) R2.g hn
    refine hq _ _ _ (g1.trans (g2.trans (w3.gr R2.f))) (R2.gw w3) (.lst upd_same ?_)
    exact dq_ofInts (f := fun k => i + (k : Int)) _
  · obtain ⟨i, j, h1, h2, h3, h4, h5⟩ := hz
    exact ⟨i, j, h1, h2, h3, h4, hq _ _ h5⟩
theorem de_lstRg3 {p p2 pos2 : Pos} (hc : X.calm = true) (hm : X.mg "list" = none) (hm2 : X.mg "range" = none) (ha : DA X W [a, b, c] wr) (hg : Gl X "list" := by rfl) (hg2 : Gl X "range" := by rfl)
    (ns : starEach [.Call (.Name "range" p2) [a, b, c] [] pos2] X.env = (false, eval (.Call (.Name "range" p2) [a, b, c] [] pos2) X.env) :: starEach [] X.env := by rfl)
    (hs : starEach [a, b, c] X.env = (false, eval a X.env) :: starEach [b, c] X.env := by rfl) (hpl : (backTo pos2 (starEach [b, c] X.env)).any (·.1) = false := by rfl) :
    DE X W (.Call (.Name "list" p) [.Call (.Name "range" p2) [a, b, c] [] pos2] [] pos) (wLstRg3 wr) := by
  refine ⟨pe_imp (pe_listRgC hc hg hm (prg_3 hg2 hm2 ha.pa hs hpl) ns) fun σ H Q hh => ?_, fun δ Q Q' E E' hq he h => ha.mono _ _ _ _ _ (fun xs δ1 hz => ?_) he h⟩
  · obtain ⟨B, G, F, δ, R, h⟩ := hh
    refine ⟨B, G, F, δ, R, ha.mono _ _ _ _ _ (fun xs δ1 h1 => ?_) (fun _ _ z => z) h⟩
    intro G1 H1 vs g1 R1 d1
    obtain ⟨i, j, k, n, rfl, fi, fj, k0, k1, hn, hn1, hq⟩ := h1
    cases d1 with
    | cons d0 d1 =>
      obtain ⟨v, v', rfl, d2, d3⟩ := dqAll2 d1
      cases d0
      cases d2
      cases d3
      refine ⟨i, j, k, rfl, by omega, by omega, n, small_of fi fj k0 (by omega), hn, by omega, fun q hf => ?_⟩
      have w3 := Gw.new (o := .lst ((List.range n).map fun m : Nat => V.int (i + (m : Int) * k))) R1.g hf
      refine hq _ _ _ (g1.trans (w3.gr R1.f)) (R1.gw w3) (.lst upd_same ?_)
      exact dq_ofInts (f := fun m => i + (m : Int) * k) _
  · obtain ⟨i, j, k, n, h1, h2, h3, h4, h5, h6, h7, h8⟩ := hz
    exact ⟨i, j, k, n, h1, h2, h3, h4, h5, h6, h7, hq _ _ h8⟩
/-! ### a call without arguments -/
theorem pe_callS0 {CX : CXT} {k : Nat} {f : Addr} {fd : FuncData} {ps : List Str} {sp : Sp} {x : Str} {EE : L2.St → XK} (F : FnOk X.prog X.w X.K X.mg X.base CX k f fd ps sp) (hr : Room k X.A) (hg : Gl X x) (hm : X.mg x = some (.ref f)) (hk : PySem.W.keepIn X.K (.ref f) = true) (hb : Binds X.K fd ps []) (hx : ∀ σ, PassesAt CX X σ (EE σ))
    (hdb : (x == ("__debug__" : Str)) = false := by decide) : PE X (.Call (.Name x p) [] [] pos) (tCallS sp EE tNil) := by
  refine ⟨fun pins s σ H Q I h => wpAny_Call_Name_kw (ld_glob I hg hm ?_ hdb)⟩
  exact PySem.W.callWith_K0 I.kIn hk (run_fnS (us := []) (vs := []) F hr hb (hx σ) I .nil h)
theorem de_call0 {x : Str} {ps : List Str} {k : Nat} {T : PT} (C : Fn X.prog X.w X.K X.mg X.base x ps k T) (tk : L2N.Takes X W) (hr : Room k X.A) (hg : Gl X x := by rfl) (hdb : (x == ("__debug__" : Str)) = false := by decide) : DE X W (.Call (.Name x p) [] [] pos) (wCall T wNil) := by
  obtain ⟨f, fd, F, hm, hk, hb⟩ := C.ex
  refine ⟨pe_imp (pe_callS0 F hr hg hm hk hb (fun σ => L2N.passAt tk σ) hdb) fun σ H Q hh => ?_, wCall_mono C.mono wNil_mono⟩
  obtain ⟨B, G, F', δ, R, h⟩ := hh
  refine ⟨G, [], R.g, .nil, C.mono _ _ _ _ _ (fun d q => ?_) (fun cc q => ?_) h⟩
  · intro G2 H2 v w2 d2
    exact q G2 H2 v (w2.gr R.f) (R.gw w2) d2
  · intro H2 s2
    exact q G H2 (Gr.refl F' G) (R.heap s2)
/-! ### sum -/
def intsOf : List PyData → Option (List Int)
  | [] => some []
  | .int i :: ds => (intsOf ds).map (i :: ·)
  | _ :: _ => none
def sumF : List PyData → Option PyData
  | [.list ds] => (intsOf ds).map fun ns => .int ns.sum
  | _ => none
theorem intsOf_map {α : Type} (f : α → Int) : ∀ L : List α, intsOf (L.map fun x => PyData.int (f x)) = some (L.map f)
  | [] => rfl
  | x :: L => by simp [intsOf, intsOf_map f L]
theorem intsOf_vals {G : Hp} : ∀ {vs : List V} {ds : List PyData} {ns : List Int}, DqAll G vs ds → intsOf ds = some ns → vs = ns.map V.int
  | _, _, _, .nil, e => by
    cases e
    rfl
  | _, .int i :: ds, ns, .cons h t, e => by
    cases h
    simp only [intsOf, Option.map_eq_some_iff] at e
    obtain ⟨l, h1, rfl⟩ := e
    rw [intsOf_vals t h1]
    rfl
theorem callD_sum {K : PySem.W.Frag} : CallD (rSum K) sumF := by
  intro G H vs ds d Q s h hf hg
  match ds, hf with
  | [.list ds], hf =>
    obtain ⟨v, rfl, hv⟩ := dqAll1 h
    cases hv with
    | lst h1 h2 =>
      simp only [sumF, Option.map_eq_some_iff] at hf
      obtain ⟨ns, h3, rfl⟩ := hf
      have e := intsOf_vals h2 h3
      subst e
      exact ⟨_, ns, rfl, SqL.of (s _ _ h1), gives_val s hg (.int _)⟩
theorem de_sum (hc : X.calm = true) (hm : X.mg "sum" = none) (ha : DA X W (e :: es) wr) (hg : Gl X "sum" := by rfl) (hs : starEach (e :: es) X.env = (false, eval e X.env) :: starEach es X.env := by rfl) (hp : (backTo pos (starEach es X.env)).any (·.1) = false := by rfl) :
    DE X W (.Call (.Name "sum" p) (e :: es) [] pos) (wCallF sumF wr) := de_callB (cr_sum hc) callD_sum hg hm (by decide +kernel) ha (by decide) (by decide) hs hp
/-! ### list(text), an own list -/
def wLstS (w : WE) : WN := fun δ Q E => w δ (fun x δ' => ∃ z, x = .str z ∧ z.length ≤ sizeLine ∧ Q (.lst (z.cps.toList.map fun k => .str ⟨#[k]⟩)) δ') E
def rLstS : List V → Hp → VK → Prop := fun vs H Q => ∃ z : Str, vs = [.str z] ∧ z.length ≤ sizeLine ∧ ∀ q, H q = none → Q (.ref q) (upd H q (.lst (z.cps.toList.map fun k => V.str ⟨#[k]⟩)))
theorem cr_lstS (hc : X.calm = true) : CallR X (.type "list") rLstS := by
  intro pins s σ H vs us Q I r h
  obtain ⟨z, rfl, hz, q⟩ := h
  obtain ⟨u, rfl, ru⟩ := vals1 r
  obtain ⟨t, rfl⟩ := ru
  refine call_list_str (I.ok.hd hc) z t (fun h' tk acc c' hk e' hi => ?_) hz
  refine ⟨.ref s.heap.objs.size, _, I.laid hk (Nat.le_refl _) (o := .lst (z.cps.toList.map fun k => V.str ⟨#[k]⟩)) ?_, rfl, q _ (I.hok.fresh (Nat.le_refl _))⟩
  refine ⟨by simpa [Str.length] using hz, acc.toList, c', ?_, ?_⟩
  · have hl : acc.toList.length = z.cps.toList.length := by simpa using hi.1
    have key : ∀ (us : List Value) (cs : List Nat), us.length = cs.length → (∀ j u, us[j]? = some u → ∃ k t, cs[j]? = some k ∧ u = Value.str ⟨#[k]⟩ t) → Vals (cs.map fun k => V.str ⟨#[k]⟩) us := fun us => by
      induction us with
      | nil =>
        intro cs h _
        cases cs with
        | nil => exact .nil
        | cons _ _ => simp at h
      | cons u us ih =>
        intro cs h k
        cases cs with
        | nil => simp at h
        | cons x cs =>
          obtain ⟨k', t', e1, e2⟩ := k 0 u rfl
          cases Option.some.inj e1
          exact .cons ⟨t', e2⟩ (ih cs (by simpa using h) fun j w e => k (j + 1) w e)
    refine key _ _ hl fun j u hj => ?_
    obtain ⟨k, t', h1, h2⟩ := hi.2 j u (by rw [← hj, Array.getElem?_toList])
    exact ⟨k, t', by rw [Array.getElem?_toList]; exact h1, h2⟩
  · rw [Array.toArray_toList]
    exact e'
theorem dq_signs {G : Hp} : ∀ L : List Nat, DqAll G (L.map fun k => V.str ⟨#[k]⟩) (L.map fun k => PyData.str ⟨#[k]⟩)
  | [] => .nil
  | k :: L => .cons (.str _) (dq_signs L)
theorem dn_lstS {p : Pos} (hc : X.calm = true) (hm : X.mg "list" = none) (ha : DE X W e we) (hg : Gl X "list" := by rfl) (hs : starEach [e] X.env = (false, eval e X.env) :: starEach [] X.env := by rfl) :
    DN X W (.Call (.Name "list" p) [e] [] pos) (wLstS we) := by
  refine ⟨pe_imp (pe_callTy (cr_lstS hc) hg hm boot_list (pa_cons ha.pe pa_nil hs) (by decide) (by decide) hs rfl) fun σ H Q hh => ?_, fun δ Q Q' E E' hq he h => ha.mono _ _ _ _ _ (fun x δ1 hz => ?_) he h⟩
  · obtain ⟨B, G, F, δ, R, hh⟩ := hh
    refine ⟨B, G, F, δ, R, ha.mono _ _ _ _ _ (fun x δ1 h1 => ?_) (fun _ _ z => z) hh⟩
    intro G1 H1 v1 g1 R1 d1
    obtain ⟨z, rfl, hz, hq⟩ := h1
    cases d1
    refine ⟨z, rfl, hz, fun q hn => ?_⟩
    obtain ⟨n1, n2⟩ := R1.fresh hn
    exact hq G1 _ q _ g1 (R1.heap (same_new hn)) n1 n2 (R1.loose hn) upd_same ⟨_, rfl, dq_signs _⟩
  · obtain ⟨z, h1, h2, h3⟩ := hz
    exact ⟨z, h1, h2, hq _ _ h3⟩
/-! ### for i, x in enumerate(xs) -/
def enumL (ds : List PyData) : List PyData := (List.range ds.length).map fun k : Nat => .tuple [.int (k : Int), ds.getD k .none]
def wEnum (w : WE) : WI := fun δ Q E => w δ (fun x δ' => ∃ ds, x = .list ds ∧ Q (enumL ds) δ') E
theorem gives_enum {K : PySem.W.Frag} {G : Hp} {a : Addr} {xs : List V} {ds : List PyData} (h : G a = some (.lst xs)) (hd : DqAll G xs ds) : GivesI G (Ite K a) (enumL ds) := by
  have ln := dpAll_len hd
  have wk := walk_enum (K := K) (a := a) (xs := xs)
  have le : (enumL ds).length = xs.length := by simp [enumL, ln]
  unfold GivesI
  rw [le]
  refine ⟨fun i H hi q => wk.goes i H hi (SqL.of (q _ _ h)), fun H q => wk.stops H (SqL.of (q _ _ h)), fun i H x H' hi q y => ?_⟩
  obtain ⟨T, u, v, h1, h2, h3, h4, h5⟩ := wk.yields i H x H' hi (SqL.of (q _ _ h)) y
  cases h4
  obtain ⟨d, e1, e2⟩ := dpAll_getV hd h5
  have hi2 : i < ds.length := by omega
  refine ⟨.tuple [.int (i : Int), d], ?_, .inr ⟨T, _, _, h1, h2, h3, rfl, .cons (.int _) (.cons e2 .nil)⟩⟩
  unfold enumL
  rw [List.getElem?_map, List.getElem?_range hi2, Option.map_some, List.getD_eq_getElem?_getD, e1]
  rfl
theorem di_enum {p tpos : Pos} {elts : List Expr} {kk : Nat} (hm : X.mg "enumerate" = none) (h : DE X W e we) (hg : Gl X "enumerate" := by rfl) (hs : starEach [e] X.env = (false, eval e X.env) :: starEach [] X.env := by rfl) (hs1 : starEach [e] X.env = [(false, eval e X.env)] := by rfl) :
    DI X W (.Tuple elts kk tpos) (.Call (.Name "enumerate" p) [e] [] pos) (wEnum we) := by
  refine ⟨pi_imp (pi_enum hg hm (pa_cons h.pe pa_nil hs) hs1) fun σ H Q hh => ?_, fun δ Q Q' E E' hq he hh => h.mono _ _ _ _ _ (fun x δ' ⟨ds, z1, z2⟩ => ⟨ds, z1, hq _ _ z2⟩) he hh⟩
  obtain ⟨B, G, F, δ, R, hh⟩ := hh
  refine ⟨B, G, F, δ, R, h.mono _ _ _ _ _ (fun x δ1 h1 => ?_) (fun _ _ z => z) hh⟩
  intro G1 H1 v1 g1 R1 d1
  obtain ⟨ds, rfl, h2⟩ := h1
  cases d1 with
  | lst h5 h6 => exact ⟨_, _, rfl, SqL.of (R1.g _ _ h5), h2 G1 H1 _ g1 R1 (gives_enum h5 h6)⟩
end
/-! steps -/
section
variable {δ : DS} {Q : PyData → DS → Prop} {E : XC} {D : WEnds} {t : WS} {i j : Nat} {wr : WA} {w : WE}
theorem s_par00 (h : t ((δ.set i (.own (.lst []))).set j (.own (.lst []))) D) : wSeq (wParNN i j (wLstN wNil) (wLstN wNil)) t δ D := ⟨by show 0 ≤ sizeLine; decide, by show 0 ≤ sizeLine; decide, h⟩
theorem u_lrg2 (h : wr δ (fun xs δ' => ∃ i j, xs = [.int i, .int j] ∧ fit62 i ∧ fit62 j ∧ (j - i).toNat ≤ 100000 ∧ Q (.list (rng i j)) δ') E) : wLstRg2 wr δ Q E := h
theorem u_lrg3 (h : wr δ (fun xs δ' => ∃ (i j c : Int) (n : Nat), xs = [.int i, .int j, .int c] ∧ fit62 i ∧ fit62 j ∧ 0 < c ∧ c ≤ 100000 ∧ Builtin.Range.rangeSize i j c = n ∧ n ≤ 100000 ∧ Q (.list (rngC i c n)) δ') E) : wLstRg3 wr δ Q E := h
theorem u_enum {Q : List PyData → DS → Prop} (h : w δ (fun x δ' => ∃ ds, x = .list ds ∧ Q (enumL ds) δ') E) : wEnum w δ Q E := h
theorem u_lstS {Q : OK → DS → Prop} (h : w δ (fun x δ' => ∃ z, x = .str z ∧ z.length ≤ sizeLine ∧ Q (.lst (z.cps.toList.map fun k => .str ⟨#[k]⟩)) δ') E) : wLstS w δ Q E := h
theorem e_lrg2 {P : Int → Int → Prop} {i j : Int} (h : fit62 i) (h' : fit62 j) (hl : (j - i).toNat ≤ 100000) (q : P i j) : ∃ i' j', [PyData.int i, PyData.int j] = [.int i', .int j'] ∧ fit62 i' ∧ fit62 j' ∧ (j' - i').toNat ≤ 100000 ∧ P i' j' := ⟨i, j, rfl, h, h', hl, q⟩
theorem e_lstS {P : List PyData → Prop} {l : List Nat} (h : l.length ≤ 100000) (q : P (ch l)) : ∃ z, S l = .str z ∧ z.length ≤ sizeLine ∧ P (z.cps.toList.map fun k => .str ⟨#[k]⟩) := ⟨St l, rfl, by rw [St_len]; exact le_line h, q⟩
theorem wAndV_val {wa wb : WE} {p q : Bool} {Q : PyData → DS → Prop} (ht : ∀ P : PyData → DS → Prop, P (.bool p) δ → wa δ P E) (hu : p = true → ∀ P : PyData → DS → Prop, P (.bool q) δ → wb δ P E) (h : Q (.bool (p && q)) δ) : wAndV wa wb δ Q E := by
  refine ht _ ⟨p, rfl, ?_⟩
  cases p with
  | true => exact iteT (hu rfl _ h)
  | false => exact iteF h
/-- an if without an else, and what both ways leave -/
theorem s_when {c : WT} {u : WS} (b : Bool) (δ2 : DS) (hc : ∀ P : Bool → DS → Prop, P b δ → c δ P D.ex) (hu : b = true → ∀ R : WS, R δ2 D → wSeq u R δ D) (h0 : b = false → δ = δ2) (q : t δ2 D) : wSeq (wIfS c u wNext) t δ D := by
  refine hc (fun b δ1 => if b = true then wSeq u t δ1 D else wSeq wNext t δ1 D) ?_
  cases b with
  | true => exact iteT (hu rfl _ q)
  | false =>
    refine iteF ?_
    rw [h0 rfl]
    exact q
theorem u_when {c : WT} {u : WS} (b : Bool) (hc : ∀ P : Bool → DS → Prop, P b δ → c δ P D.ex) (hu : b = true → u δ D) (h0 : b = false → D.nx δ) : wIfS c u wNext δ D := by
  refine hc (fun b δ1 => if b = true then u δ1 D else wNext δ1 D) ?_
  cases b with
  | true => exact iteT (hu rfl)
  | false => exact iteF (h0 rfl)
/-- the same where the if is open already -/
theorem o_when {c : WT} {u : WS} (b : Bool) (δ2 : DS) (hc : ∀ P : Bool → DS → Prop, P b δ → c δ P D.ex) (hu : b = true → ∀ R : WS, R δ2 D → wSeq u R δ D) (h0 : b = false → δ = δ2) (q : t δ2 D) : c δ (fun b δ1 => if b = true then wSeq u t δ1 D else wSeq wNext t δ1 D) D.ex := s_when b δ2 hc hu h0 q
theorem o_whenU {c : WT} {u : WS} (b : Bool) (hc : ∀ P : Bool → DS → Prop, P b δ → c δ P D.ex) (hu : b = true → u δ D) (h0 : b = false → D.nx δ) : c δ (fun b δ1 => if b = true then u δ1 D else wNext δ1 D) D.ex := u_when b hc hu h0
/-- an if that does not hold, open already -/
theorem o_skip {c : WT} {u : WS} (hc : ∀ P : Bool → DS → Prop, P false δ → c δ P D.ex) (q : t δ D) : c δ (fun b δ1 => if b = true then wSeq u t δ1 D else wSeq wNext t δ1 D) D.ex := s_skip hc q
/-- two ways to one value -/
theorem iteW {b : Bool} {wa wb : WE} {Q : PyData → DS → Prop} (x : PyData) (h1 : b = true → ∀ P : PyData → DS → Prop, P x δ → wa δ P E) (h2 : b = false → ∀ P : PyData → DS → Prop, P x δ → wb δ P E) (q : Q x δ) : if b = true then wa δ Q E else wb δ Q E := by
  cases b with
  | true => exact h1 rfl _ q
  | false => exact h2 rfl _ q
theorem rangeC_size {i j c : Int} {n : Nat} (h0 : 0 < c) (h : i + n * c = j + (c - 1) - (j + (c - 1) - i) % c) (hij : i < j) : Builtin.Range.rangeSize i j c = n := by
  unfold Builtin.Range.rangeSize
  rw [if_pos h0, if_pos hij]
  have e : (j - i - 1) + c = (j + (c - 1) - i) := by omega
  have hd : (j - i - 1) / c + 1 = (j + (c - 1) - i) / c := by
    rw [← e, Int.add_ediv_of_dvd_right (Int.dvd_refl c), Int.ediv_self (by omega)]
  rw [hd]
  have h2 := Int.mul_ediv_add_emod (j + (c - 1) - i) c
  have h3 : c * ((j + (c - 1) - i) / c) = n * c := by
    omega
  rw [Int.mul_comm c] at h3
  exact Int.eq_of_mul_eq_mul_right (by omega) h3
end
end RD

/-! The data layer, part w: writers (objects with a word and a number). -/
namespace RD
open PySem PySem.Spec PyProof.Rows L2
abbrev fldW (w : Str) (k : Int) : List (Str × V) := [(("letters" : Str), V.str w), (("kept" : Str), V.int k)]
theorem lk_ne : ¬ (("letters" : Str) = "kept") := by decide +kernel
theorem kl_ne : ¬ (("kept" : Str) = "letters") := by decide +kernel
theorem fld_l (w : Str) (k : Int) : (fldW w k).lookup ("letters" : Str) = some (.str w) := by
  simp [fldW, List.lookup]
theorem fld_k (w : Str) (k : Int) : (fldW w k).lookup ("kept" : Str) = some (.int k) := by
  have : (("kept" : Str) == "letters") = false := beq_eq_false_iff_ne.mpr kl_ne
  simp [fldW, List.lookup, this]
theorem fld_no (w : Str) (k : Int) {m : Str} (h1 : m ≠ "letters") (h2 : m ≠ "kept") : (fldW w k).lookup m = none := by
  have e1 : (m == "letters") = false := beq_eq_false_iff_ne.mpr h1
  have e2 : (m == "kept") = false := beq_eq_false_iff_ne.mpr h2
  simp [fldW, List.lookup, e1, e2]
theorem fld_putL (w z : Str) (k : Int) : putF "letters" (.str z) (fldW w k) = fldW z k := by
  show (if ("letters" : Str) = "letters" then _ else _) = _
  rw [if_pos rfl]
theorem fld_putK (w : Str) (k j : Int) : putF "kept" (.int j) (fldW w k) = fldW w j := by
  show (if ("letters" : Str) = "kept" then _ else (("letters" : Str), V.str w) :: (if ("kept" : Str) = "kept" then _ else _)) = _
  rw [if_neg lk_ne, if_pos rfl]
/-- what of the class is asked -/
structure WCls (K : PySem.W.Frag) (C : Addr) : Prop where
  cl : Cls K C
  nL : NoAttr K C "letters"
  nK : NoAttr K C "kept"
/-- an owned object changed by a callee -/
theorem Rel.own1 {K : PySem.W.Frag} {B G F : Hp} {δ : DS} {σ : L2.St} {H : Hp} (R : Rel K B G F δ σ H) {j : Nat} {t : Addr} {k k' : OK} {o' : HO} {G' H' : Hp} (e : δ[j]? = some (.own k)) (et : σ[j]? = some (some (.ref t)))
    (g : Gr (hide H t) G G') (h : Same (hide H t) H') (gh : Same G' H') (n : G' t = none) (ht : H' t = some o') (d : OwnIs G' t o' k') : Rel K B G' F (δ.set j (.own k')) σ H' ∧ Gr F G G' := by
  obtain ⟨t0, ob, e1, nG, nF, hH, ho⟩ := R.own e
  rw [et] at e1
  cases e1
  have sF : Same F (hide H t) := same_hide R.f nF
  have gF : Gr F G G' := g.frame fun a ha => same_mu sF ha
  have hi : j < δ.length := (List.getElem?_eq_some_iff.mp e).1
  refine ⟨⟨R.b, gh, sF.trans h, by simp [R.len], fun m s em => ?_, fun i l k1 k2 q hne e1 e2 e3 e4 => ?_⟩, gF⟩
  · by_cases hj : j = m
    · subst hj
      rw [List.getElem?_set_self hi] at em
      cases em
      exact ⟨t, _, et, n, nF, ht, d⟩
    · rw [List.getElem?_set_ne hj] at em
      have z := R.slot m s em
      cases s with
      | no => trivial
      | d x =>
        obtain ⟨v, h1, h2⟩ := z
        exact ⟨v, h1, dp_same g.g h2⟩
      | scr ns => exact z
      | raw v => exact z
      | own k =>
        obtain ⟨q, ob', h1, h2, h3, h4, h5⟩ := z
        have nq : q ≠ t := fun z => by
          subst z
          exact R.sep j m _ k q hj e em et h1
        have hq : hide H t q = some ob' := by rw [hide_ne nq]; exact h4
        exact ⟨q, ob', h1, g.n q (h5.mu hq) h2, h3, h _ _ hq, h5.grow g.g⟩
  · have back : ∀ (m : Nat) (k1 : OK), (δ.set j (SD.own k'))[m]? = some (SD.own k1) → ∃ k2, δ[m]? = some (SD.own k2) := fun m k1 em => by
      by_cases hj : j = m
      · subst hj
        exact ⟨_, e⟩
      · rw [List.getElem?_set_ne hj] at em
        exact ⟨k1, em⟩
    obtain ⟨k3, e5⟩ := back i k1 e1
    obtain ⟨k4, e6⟩ := back l k2 e2
    exact R.sep i l k3 k4 q hne e5 e6 e3 e4
theorem Rel.wr {K : PySem.W.Frag} {B G F : Hp} {δ : DS} {σ : L2.St} {H : Hp} (R : Rel K B G F δ σ H) {i : Nat} {t C : Addr} {w : Str} {k : Int} (e : δ[i]? = some (.own (.wr t C w k))) : ∃ dx, σ[i]? = some (some (.ref t)) ∧ G t = none ∧ F t = none ∧ H t = some (.ins C dx (fldW w k)) := by
  obtain ⟨p, o, h1, h2, h3, h4, rfl, dx, rfl⟩ := R.own e
  exact ⟨dx, h1, h2, h3, h4⟩
section
variable {X : Cx} {W : WX} {a b c e o : Expr} {es : List Expr} {pos p ps apos : Pos} {wa wb wc we : WE} {wr : WA} {st : Stmt} {C : Addr}
/-! ### its word, its number -/
def wFldL (C : Addr) (i : Nat) : WE := fun δ Q _ => ∃ t w k, δ[i]? = some (.own (.wr t C w k)) ∧ Q (.str w) δ
def wFldK (C : Addr) (i : Nat) : WE := fun δ Q _ => ∃ t w k, δ[i]? = some (.own (.wr t C w k)) ∧ Q (.int k) δ
theorem de_fldL {i : Nat} (c : WCls X.K C) (ho : PE X o (tVar i)) (hb : attributeBase o "letters" X.env (eval o X.env) = eval o X.env := by rfl) : DE X W (.Attribute o "letters" pos) (wFldL C i) := by
  refine ⟨pe_imp (pe_fld ho hb) fun σ H Q hh => ?_, fun δ Q Q' E E' hq _ hz => ?_⟩
  · obtain ⟨B, G, F, δ, R, t, w, k, e1, h⟩ := hh
    obtain ⟨dx, h1, _, _, h4⟩ := R.wr e1
    exact ⟨_, h1, t, C, dx, _, _, rfl, h4, c.cl, c.nL, fld_l w k, h G H _ (Gr.refl F G) R (.str w)⟩
  · obtain ⟨t, w, k, h1, h2⟩ := hz
    exact ⟨t, w, k, h1, hq _ _ h2⟩
theorem de_fldK {i : Nat} (c : WCls X.K C) (ho : PE X o (tVar i)) (hb : attributeBase o "kept" X.env (eval o X.env) = eval o X.env := by rfl) : DE X W (.Attribute o "kept" pos) (wFldK C i) := by
  refine ⟨pe_imp (pe_fld ho hb) fun σ H Q hh => ?_, fun δ Q Q' E E' hq _ hz => ?_⟩
  · obtain ⟨B, G, F, δ, R, t, w, k, e1, h⟩ := hh
    obtain ⟨dx, h1, _, _, h4⟩ := R.wr e1
    exact ⟨_, h1, t, C, dx, _, _, rfl, h4, c.cl, c.nK, fld_k w k, h G H _ (Gr.refl F G) R (.int k)⟩
  · obtain ⟨t, w, k, h1, h2⟩ := hz
    exact ⟨t, w, k, h1, hq _ _ h2⟩
/-- self.letters = e -/
def wPutL (C : Addr) (i : Nat) (w : WE) : WS := fun δ D => w δ (fun x δ' => ∃ z t w0 k, x = .str z ∧ δ'[i]? = some (.own (.wr t C w0 k)) ∧ D.nx (δ'.set i (.own (.wr t C z k)))) D.ex
theorem wPutL_mono {i : Nat} (h : MonoE we) : MonoS (wPutL C i we) := fun δ D D' l hh => h _ _ _ _ _ (fun x δ' ⟨z, t, w0, k, h1, h2, h3⟩ => ⟨z, t, w0, k, h1, h2, l.nx _ h3⟩) l.ex hh
theorem ds_putL {i : Nat} (c : WCls X.K C) (h : DE X W e we) (ho : PE X o (tVar i)) (hs : swapsWith e (some (.Attribute o "letters" apos)) pos.line X.env = pure false := by rfl) : DSt X W (.Assign [.Attribute o "letters" apos] e pos) (wPutL C i we) := by
  refine ⟨ps_imp (ps_fld ho h.pe hs) fun D σ H hh => ?_, wPutL_mono h.mono⟩
  obtain ⟨B, G, F, δ, R, hh⟩ := hh
  refine ⟨B, G, F, δ, R, h.mono _ _ _ _ _ (fun x δ1 h1 => ?_) xL_of hh⟩
  intro G1 H1 v1 g1 R1 d1
  obtain ⟨z, t, w0, k, rfl, e1, h2⟩ := h1
  cases d1
  obtain ⟨dx, q1, _, _, q4⟩ := R1.wr e1
  refine ⟨_, q1, t, C, dx, _, rfl, q4, c.cl, c.nL, by show 2 < 1000; decide, ?_⟩
  rw [fld_putL]
  exact h2 G1 σ _ g1 (R1.mut e1 q1 ⟨rfl, dx, rfl⟩)
/-! ### methods, and defs that take a writer first -/
abbrev PTW := List Nat → Nat → List PyData → (PyData → List Nat → Nat → Prop) → (Value → List Nat → Nat → Prop) → Prop
def MonoW (T : PTW) : Prop := ∀ w k ds Q Q' E E', (∀ d w k, Q d w k → Q' d w k) → (∀ c w k, E c w k → E' c w k) → T w k ds Q E → T w k ds Q' E'
def spWr (C : Addr) (T : PTW) : Sp := fun vs H Q E => ∃ (G : Hp) (t : Addr) (w : List Nat) (k : Nat) (dx : Addr) (vs' : List V) (ds : List PyData), vs = .ref t :: vs' ∧ Same G (hide H t) ∧ H t = some (.ins C dx (fldW (St w) (k : Int))) ∧ DqAll G vs' ds ∧
  T w k ds (fun d w' k' => ∀ G' H' v dx', Gr (hide H t) G G' → Same (hide H t) H' → Same G' H' → G' t = none → H' t = some (.ins C dx' (fldW (St w') (k' : Int))) → Dq G' v d → Q v H') (fun cc w' k' => ∀ H' dx', Same (hide H t) H' → H' t = some (.ins C dx' (fldW (St w') (k' : Int))) → E cc none H')
structure FnM (P : Program) (w : World) (K : PySem.W.Frag) (mg : Str → Option Value) (base : Heap) (C : Addr) (m : Str) (ps : List Str) (k : Nat) (T : PTW) : Prop where
  ex : ∃ f fd, FnOk P w K mg base (L2N.CX P w) k f fd ps (spWr C T) ∧ Meth K C m f ∧ Binds K fd ps []
  mono : MonoW T
structure FnV (P : Program) (w : World) (K : PySem.W.Frag) (mg : Str → Option Value) (base : Heap) (C : Addr) (x : Str) (ps : List Str) (k : Nat) (T : PTW) : Prop where
  ex : ∃ f fd, FnOk P w K mg base (L2N.CX P w) k f fd ps (spWr C T) ∧ mg x = some (.ref f) ∧ PySem.W.keepIn K (.ref f) = true ∧ Binds K fd ps []
  mono : MonoW T
abbrev wrS (t C : Addr) (w : List Nat) (k : Nat) : SD := .own (.wr t C (St w) (k : Int))
def wCallW (C : Addr) (i : Nat) (T : PTW) (w : WA) : WE := fun δ Q E => (∃ t w k, δ[i]? = some (wrS t C w k)) ∧ w δ (fun ds δ' => ∃ t w k, δ'[i]? = some (wrS t C w k) ∧ T w k ds (fun d w' k' => Q d (δ'.set i (wrS t C w' k'))) (fun cc w' k' => E cc (δ'.set i (wrS t C w' k')))) E
theorem wCallW_mono {i : Nat} {T : PTW} (hT : MonoW T) (h : MonoE wr) : MonoE (wCallW C i T wr) := fun δ Q Q' E E' hq he ⟨h0, hz⟩ => ⟨h0, h _ _ _ _ _ (fun ds δ' ⟨t, w, k, h1, h2⟩ => ⟨t, w, k, h1, hT _ _ _ _ _ _ _ (fun d w k q => hq _ _ q) (fun cc w k q => he _ _ q) h2⟩) he hz⟩
/-- from the reading of the arguments to what the callee wants -/
theorem spWr_of {K : PySem.W.Frag} {B G F : Hp} {δ : DS} {σ : L2.St} {H : Hp} {i : Nat} {T : PTW} {t : Addr} {w : List Nat} {k : Nat} {vs : List V} {ds : List PyData} {Q : VK} {E : XK} (hT : MonoW T) (R : Rel K B G F δ σ H) (e : δ[i]? = some (wrS t C w k)) (d : DqAll G vs ds)
    (h : T w k ds (fun d w' k' => ∀ G' H' v, Gr F G G' → Rel K B G' F (δ.set i (wrS t C w' k')) σ H' → Dq G' v d → Q v H') (fun cc w' k' => ∀ H', Rel K B G F (δ.set i (wrS t C w' k')) σ H' → E cc none H')) : spWr C T (.ref t :: vs) H Q E := by
  obtain ⟨dx, q1, q2, q3, q4⟩ := R.wr e
  refine ⟨G, t, w, k, dx, vs, ds, rfl, same_hide R.g q2, q4, d, hT _ _ _ _ _ _ _ (fun x w' k' z => ?_) (fun cc w' k' z => ?_) h⟩
  · intro G' H' v dx' g hs gh n ht dv
    obtain ⟨R', g'⟩ := R.own1 e q1 g hs gh n ht (k' := .wr t C (St w') (k' : Int)) ⟨rfl, dx', rfl⟩
    exact z G' H' v g' R' dv
  · intro H' dx' hs ht
    obtain ⟨R', g'⟩ := R.own1 e q1 (Gr.refl _ G) hs ((same_hide R.g q2).trans hs) q2 ht (k' := .wr t C (St w') (k' : Int)) ⟨rfl, dx', rfl⟩
    exact z H' R'
theorem de_callW {x : Str} {i : Nat} {qs : List Str} {k : Nat} {T : PTW} (V : FnV X.prog X.w X.K X.mg X.base C x qs k T) (tk : L2N.Takes X W) (hr : Room k X.A) (ho : PE X a (tVar i)) (ha : DA X W es wr) (hg : Gl X x := by rfl) (hdb : (x == ("__debug__" : Str)) = false := by decide)
    (hs : starEach (a :: es) X.env = (false, eval a X.env) :: starEach es X.env := by rfl) (hp : (backTo pos (starEach es X.env)).any (·.1) = false := by rfl) : DE X W (.Call (.Name x p) (a :: es) [] pos) (wCallW C i T wr) := by
  obtain ⟨f, fd, F, hm, hk, hb⟩ := V.ex
  refine ⟨pe_imp (pe_callS F hr hg hm hk hb (fun σ => L2N.passAt tk σ) (pa_cons ho ha.pa hs) hdb hs hp) fun σ H Q hh => ?_, wCallW_mono V.mono ha.mono⟩
  obtain ⟨B, G, F', δ, R, ⟨t0, w0, k0, e0⟩, h⟩ := hh
  obtain ⟨dx0, q0, _⟩ := R.wr e0
  refine ⟨_, q0, B, G, F', δ, R, ha.mono _ _ _ _ _ (fun ds δ1 h1 => ?_) (fun _ _ z => z) h⟩
  intro G1 H1 vs g1 R1 d1
  obtain ⟨t, w, k, e1, h2⟩ := h1
  obtain ⟨dx1, q1, _⟩ := R1.wr e1
  rw [q0] at q1
  cases q1
  refine spWr_of V.mono R1 e1 d1 (V.mono _ _ _ _ _ _ _ (fun x w' k' z => ?_) (fun cc w' k' z => ?_) h2)
  · intro G' H' v g R' dv
    exact z G' H' v (g1.trans g) R' dv
  · intro H' R'
    exact z G1 H' g1 R'
/-- o.m(..), with what is raised told by the slots -/
def tMethA (C : Addr) (m : Str) (sp : Sp) (E : L2.St → XK) (ta : TE) (t : TA) : TE := fun σ H Q => ta σ H fun x H1 => ∃ q dx fs, x = .ref q ∧ H1 q = some (.ins C dx fs) ∧ fs.lookup m = none ∧ t σ H1 fun vs H2 => sp (x :: vs) H2 Q (E σ)
section
variable {CX : CXT} {k : Nat} {f : Addr} {fd : FuncData} {qs : List Str} {sp : Sp} {E : L2.St → XK} {m : Str} {ta : TE} {t : TA} {pl : Sem Bool}
theorem pe_methA (he : PE X o ta) (c : Cls X.K C) (hm : Meth X.K C m f) (F : FnOk X.prog X.w X.K X.mg X.base CX k f fd qs sp) (hr : Room k X.A) (hb : Binds X.K fd qs []) (hx : ∀ σ, PassesAt CX X σ (E σ)) (ha : PA X (e :: es) t) (hst : starEach (e :: es) X.env = (false, eval e X.env) :: starEach es X.env := by rfl) (hpl : (backTo pos (starEach es X.env)).any (·.1) = false := by rfl)
    (ht : eval (.Call (.Attribute o m apos) (e :: es) [] pos) X.env = (do let ov ← eval o X.env; standAt apos.atName; let (g, fst) ← holding [ov] (getMethod ov m pl); callWith pos g fst (backTo pos (starEach (e :: es) X.env)) (backToKw pos (keywordEach [] X.env))) := by rfl) :
    PE X (.Call (.Attribute o m apos) (e :: es) [] pos) (tMethA C m sp E ta t) := by
  refine ⟨fun pins s σ H Q I h => PySem.W.methodCall_KW (pl := pl) (thn (he.run pins s σ H _ I h) fun u s1 got => ?_) ht⟩
  obtain ⟨x, H1, I1, rx, q, dx, fs, ex, ea, l, want⟩ := got
  subst ex
  obtain rfl : u = Value.ref q := rx
  refine getmeth_ok I1 ea c hm l (PySem.W.callWith_K (first := [.ref q]) (h₀ := X.base) I.ok.mod.kin hm.kp (thn (ha.run pos pins s1 σ H1 _ I1 want) fun us s2 got2 => ?_) hst hpl)
  obtain ⟨vs, H2, I2, r, w2⟩ := got2
  exact ⟨I2.kIn, run_fnS (us := .ref q :: us) (vs := .ref q :: vs) F hr hb (hx σ) I2 (.cons rfl r) w2⟩
theorem pe_methA0 (he : PE X o ta) (c : Cls X.K C) (hm : Meth X.K C m f) (F : FnOk X.prog X.w X.K X.mg X.base CX k f fd qs sp) (hr : Room k X.A) (hb : Binds X.K fd qs []) (hx : ∀ σ, PassesAt CX X σ (E σ))
    (ht : eval (.Call (.Attribute o m apos) [] [] pos) X.env = (do let ov ← eval o X.env; standAt apos.atName; let (g, fst) ← holding [ov] (getMethod ov m pl); callWith pos g fst (backTo pos (starEach [] X.env)) (backToKw pos (keywordEach [] X.env))) := by rfl) :
    PE X (.Call (.Attribute o m apos) [] [] pos) (tMethA C m sp E ta tNil) := by
  refine ⟨fun pins s σ H Q I h => PySem.W.methodCall_KW (pl := pl) (thn (he.run pins s σ H _ I h) fun u s1 got => ?_) ht⟩
  obtain ⟨x, H1, I1, rx, q, dx, fs, ex, ea, l, want⟩ := got
  subst ex
  obtain rfl : u = Value.ref q := rx
  exact getmeth_ok I1 ea c hm l (PySem.W.callWith_K0 (first := [.ref q]) I1.kIn hm.kp (run_fnS (us := [.ref q]) (vs := [.ref q]) F hr hb (hx σ) I1 (.cons rfl .nil) want))
end
theorem de_methW {m : Str} {i : Nat} {qs : List Str} {k : Nat} {T : PTW} {pl : Sem Bool} (c : WCls X.K C) (V : FnM X.prog X.w X.K X.mg X.base C m qs k T) (tk : L2N.Takes X W) (hr : Room k X.A) (ho : PE X o (tVar i)) (ha : DA X W (e :: es) wr) (hn1 : m ≠ "letters" := by decide +kernel) (hn2 : m ≠ "kept" := by decide +kernel)
    (hst : starEach (e :: es) X.env = (false, eval e X.env) :: starEach es X.env := by rfl) (hpl : (backTo pos (starEach es X.env)).any (·.1) = false := by rfl)
    (ht : eval (.Call (.Attribute o m apos) (e :: es) [] pos) X.env = (do let ov ← eval o X.env; standAt apos.atName; let (g, fst) ← holding [ov] (getMethod ov m pl); callWith pos g fst (backTo pos (starEach (e :: es) X.env)) (backToKw pos (keywordEach [] X.env))) := by rfl) :
    DE X W (.Call (.Attribute o m apos) (e :: es) [] pos) (wCallW C i T wr) := by
  obtain ⟨f, fd, F, hm, hb⟩ := V.ex
  refine ⟨pe_imp (pe_methA ho c.cl hm F hr hb (fun σ => L2N.passAt tk σ) ha.pa hst hpl ht) fun σ H Q hh => ?_, wCallW_mono V.mono ha.mono⟩
  obtain ⟨B, G, F', δ, R, ⟨t0, w0, k0, e0⟩, h⟩ := hh
  obtain ⟨dx0, q0, _, _, q4⟩ := R.wr e0
  refine ⟨_, q0, t0, dx0, _, rfl, q4, fld_no _ _ hn1 hn2, B, G, F', δ, R, ha.mono _ _ _ _ _ (fun ds δ1 h1 => ?_) (fun _ _ z => z) h⟩
  intro G1 H1 vs g1 R1 d1
  obtain ⟨t, w, k, e1, h2⟩ := h1
  obtain ⟨dx1, q1, _⟩ := R1.wr e1
  rw [q0] at q1
  cases q1
  refine spWr_of V.mono R1 e1 d1 (V.mono _ _ _ _ _ _ _ (fun x w' k' z => ?_) (fun cc w' k' z => ?_) h2)
  · intro G' H' v g R' dv
    exact z G' H' v (g1.trans g) R' dv
  · intro H' R'
    exact z G1 H' g1 R'
theorem de_methW0 {m : Str} {i : Nat} {qs : List Str} {k : Nat} {T : PTW} {pl : Sem Bool} (c : WCls X.K C) (V : FnM X.prog X.w X.K X.mg X.base C m qs k T) (tk : L2N.Takes X W) (hr : Room k X.A) (ho : PE X o (tVar i)) (hn1 : m ≠ "letters" := by decide +kernel) (hn2 : m ≠ "kept" := by decide +kernel)
    (ht : eval (.Call (.Attribute o m apos) [] [] pos) X.env = (do let ov ← eval o X.env; standAt apos.atName; let (g, fst) ← holding [ov] (getMethod ov m pl); callWith pos g fst (backTo pos (starEach [] X.env)) (backToKw pos (keywordEach [] X.env))) := by rfl) :
    DE X W (.Call (.Attribute o m apos) [] [] pos) (wCallW C i T wNil) := by
  obtain ⟨f, fd, F, hm, hb⟩ := V.ex
  refine ⟨pe_imp (pe_methA0 ho c.cl hm F hr hb (fun σ => L2N.passAt tk σ) ht) fun σ H Q hh => ?_, wCallW_mono V.mono wNil_mono⟩
  obtain ⟨B, G, F', δ, R, ⟨t0, w0, k0, e0⟩, h⟩ := hh
  obtain ⟨dx0, q0, _, _, q4⟩ := R.wr e0
  refine ⟨_, q0, t0, dx0, _, rfl, q4, fld_no _ _ hn1 hn2, ?_⟩
  obtain ⟨t, w, k, e1, h2⟩ := h
  obtain ⟨dx1, q1, _⟩ := R.wr e1
  rw [q0] at q1
  cases q1
  refine spWr_of V.mono R e1 .nil (V.mono _ _ _ _ _ _ _ (fun x w' k' z => ?_) (fun cc w' k' z => ?_) h2)
  · intro G' H' v g R' dv
    exact z G' H' v g R' dv
  · intro H' R'
    exact z G H' (Gr.refl F' G) R'
end
section
variable {P : Program} {w : World} {K : PySem.W.Frag} {mg : Str → Option Value} {base : Heap}
theorem startW_rel {G H : Hp} {N : List Str} {t C dx : Addr} {ww : List Nat} {kk : Nat} {vs : List V} {ds : List PyData} (s : Same G (hide H t)) (ht : H t = some (.ins C dx (fldW (St ww) (kk : Int)))) (h : DqAll G vs ds) (hl : vs.length + 1 ≤ N.length) :
    Rel K (hide H t) G (hide H t) (wrS t C ww kk :: startD (N.length - 1) ds) (L2.start N (.ref t :: vs)) H := by
  match N, hl with
  | y :: N, hl =>
    have R := start_rel (K := K) (N := N) s h (by simpa using hl)
    have es : L2.start (y :: N) (.ref t :: vs) = some (.ref t) :: L2.start N vs := by
      unfold L2.start
      simp
    rw [es]
    have nG : G t = none := s.free hide_self
    have nn : ∀ (i : Nat) (u' : SD), (startD N.length ds)[i]? = some u' → u' = .no ∨ ∃ d, u' = .d d := fun i u' e' => by
      unfold startD at e'
      by_cases hi : i < ds.length
      · rw [List.getElem?_append_left (by simpa using hi), List.getElem?_map] at e'
        cases q : ds[i]? with
        | none =>
          rw [q] at e'
          cases e'
        | some d =>
          rw [q] at e'
          cases e'
          exact .inr ⟨d, rfl⟩
      · rw [List.getElem?_append_right (by simp; omega), List.getElem?_replicate] at e'
        split at e'
        · cases e'
          exact .inl rfl
        · cases e'
    refine ⟨Same.refl _, s.trans hide_same, hide_same, by simp [R.len], fun i u e => ?_, fun i j k l p hne e1 e2 e3 e4 => ?_⟩
    · match i, e with
      | 0, e =>
        cases e
        exact ⟨t, _, rfl, nG, hide_self, ht, rfl, dx, rfl⟩
      | i + 1, e =>
        have z := R.slot i u e
        rcases nn i u e with rfl | ⟨d, rfl⟩
        · trivial
        · exact z
    · have n0 : ∀ (i : Nat) (k : OK), (wrS t C ww kk :: startD N.length ds)[i]? = some (.own k) → i = 0 := fun i k e' => by
        match i, e' with
        | 0, _ => rfl
        | i + 1, e' =>
          rcases nn i _ e' with z | ⟨d, z⟩ <;> cases z
      exact hne ((n0 i k e1).trans (n0 j l e2).symm)
def endsW (t C : Addr) (Q : PyData → List Nat → Nat → Prop) (E : Value → List Nat → Nat → Prop) : WEnds :=
  { nx := fun δ => ∃ w k, δ[0]? = some (wrS t C w k) ∧ Q .none w k
    rt := fun x δ => ∃ w k, δ[0]? = some (wrS t C w k) ∧ Q x w k
    bk := fun _ => False
    ct := fun _ => False
    ex := fun cc δ => ∃ w k, δ[0]? = some (wrS t C w k) ∧ E cc w k }
theorem okM {x qual : Str} {st : Stmt} {f C : Addr} {fd : FuncData} {N qs : List Str} {k : Nat} {T : PTW} {b : WS} (F : Fun K x qual st f fd) (S : FnScope N qs (defScope st)) (hb : ∀ (cdv : Value) (A : Around) (outer : List Env) (s : Shared) (H : Hp) (E : XK), Room k (A.deeper (PyProof.Rows.envOfC qual (defScope st) s.heap.objs.size f cdv)) →
      DSs (cxOf (L2N.CX P w) P w K mg base N qual (defScope st) f cdv A outer s H E) (fun cls d _ H' => E cls d H') (defBody st) b) (hN : qs.length ≤ N.length)
    (hw : ∀ t w k ds Q E, T w k ds Q E → ds.length + 1 = qs.length ∧ b (wrS t C w k :: startD (N.length - 1) ds) (endsW t C Q E)) : FnOk P w K mg base (L2N.CX P w) (k + 1) f fd qs (spWr C T) := by
  obtain ⟨oc, od, kV, doc, pm, an, cdv, ct, osl, rfl, lk, hcd⟩ := F.ex
  refine fn_of lk hcd S (fun vs H Q E h => ?_) fun A outer s H vs Q E hr hsp => ?_
  · obtain ⟨G, t, w, k, dx, vs', ds, rfl, sm, ht, d, tt⟩ := h
    have := (hw t _ _ _ _ _ tt).1
    have := dpAll_len d
    simp
    omega
  · obtain ⟨G, t, w, k, dx, vs', ds, rfl, sm, ht, d, tt⟩ := hsp
    obtain ⟨hl, hbb⟩ := hw t _ _ _ _ _ tt
    refine ⟨_, (hb cdv A outer s H E hr).ps, hide H t, G, hide H t, _, startW_rel sm ht d (by rw [dpAll_len d]; omega), (hb cdv A outer s H E hr).mono _ (endsW t C _ _) _ ⟨fun δ z => ?_, fun v δ z => ?_, fun _ z => False.elim z, fun _ z => False.elim z, fun cc δ z => ?_⟩ hbb⟩
    · intro G' σ' H' g R
      obtain ⟨w', k', e1, q⟩ := z
      obtain ⟨dx', _, n1, _, h4⟩ := R.wr e1
      exact q G' H' .non dx' g R.f R.g n1 h4 .non
    · intro G' σ' H' u g R du
      obtain ⟨w', k', e1, q⟩ := z
      obtain ⟨dx', _, n1, _, h4⟩ := R.wr e1
      exact q G' H' u dx' g R.f R.g n1 h4 du
    · intro G' σ' H' g R
      obtain ⟨w', k', e1, q⟩ := z
      obtain ⟨dx', _, n1, _, h4⟩ := R.wr e1
      exact q H' dx' R.f h4
/-! ### a new writer -/
def spInit (C : Addr) : Sp := fun vs H Q _ => ∃ t dx, vs = [.ref t] ∧ H t = some (.ins C dx []) ∧ Q .non (upd H t (.ins C dx (fldW Str.empty 0)))
structure FnI (P : Program) (w : World) (K : PySem.W.Frag) (mg : Str → Option Value) (base : Heap) (x : Str) (C : Addr) (k : Nat) : Prop where
  ex : ∃ f fd, FnOk P w K mg base (L2N.CX P w) k f fd ["self"] (spInit C) ∧ Mk K C f ∧ Binds K fd ["self"] [] ∧ mg x = some (.ref C)
theorem empty_is : Str.empty = St [] := rfl
end
section
variable {X : Cx} {W : WX} {a b c e o : Expr} {es : List Expr} {pos p ps apos : Pos} {C : Addr}
def wMake (C : Addr) : WN := fun δ Q _ => ∀ t, Q (.wr t C (St []) 0) δ
theorem passes_no : Passes (L2N.CX X.prog X.w) X (fun _ _ _ => False) := fun pins σ H s e s' I z => by
  obtain ⟨_, _, _, _, _, _, _, _, _, _, _, _, z⟩ := z
  exact z.elim
theorem dn_make {x : Str} {k : Nat} (V : FnI X.prog X.w X.K X.mg X.base x C k) (hr : Room (k + 1) X.A) (hg : Gl X x := by rfl) (hdb : (x == ("__debug__" : Str)) = false := by decide) : DN X W (.Call (.Name x p) [] [] pos) (wMake C) := by
  obtain ⟨f, fd, F, M, hb, hm⟩ := V.ex
  refine ⟨pe_imp (pe_make0 M F hr hg hm hb .nil passes_no hdb) fun σ H Q hh => ?_, fun _ _ _ _ _ hq _ h t => hq _ _ (h t)⟩
  obtain ⟨B, G, F', δ, R, h⟩ := hh
  intro x' dx nx ndx nex
  refine ⟨x', dx, rfl, upd_same, rfl, ?_⟩
  have s1 : Same H (upd (upd (upd H dx (.own x')) x' (.ins C dx [])) x' (.ins C dx (fldW Str.empty 0))) := fun b o e => by
    rw [upd_ne (ne_of_none e nx), upd_ne (ne_of_none e nx), upd_ne (ne_of_none e ndx)]
    exact e
  obtain ⟨n1, n2⟩ := R.fresh nx
  exact h x' G _ x' _ (Gr.refl F' G) (R.heap s1) n1 n2 (R.loose nx) upd_same ⟨rfl, dx, rfl⟩
end
section
variable {P : Program} {w : World} {K : PySem.W.Frag} {mg : Str → Option Value} {base : Heap}
/-- __init__: self.letters = ""; self.kept = 0 -/
theorem okI {x qual : Str} {st : Stmt} {f C : Addr} {fd : FuncData} (F : Fun K x qual st f fd) (S : FnScope ["self"] ["self"] (defScope st)) (c : WCls K C)
    (hb : ∀ (cdv : Value) (A : Around) (outer : List Env) (s : Shared) (H : Hp) (E : XK), PSs (cxOf (L2N.CX P w) P w K mg base ["self"] qual (defScope st) f cdv A outer s H E) (defBody st) (tSeq (sFld K (tVar 0) (tC (.str Str.empty)) "letters") (sFld K (tVar 0) (tC (.int 0)) "kept"))) :
    FnOk P w K mg base (L2N.CX P w) 1 f fd ["self"] (spInit C) := by
  obtain ⟨oc, od, kV, doc, pm, an, cdv, ct, osl, rfl, lk, hcd⟩ := F.ex
  refine fn_of (k := 0) lk hcd S (fun vs H Q E h => ?_) fun A outer s H vs Q E hr hsp => ?_
  · obtain ⟨t, dx, rfl, _⟩ := h
    rfl
  · obtain ⟨t, dx, rfl, ht, q⟩ := hsp
    refine ⟨_, hb cdv A outer s H E, _, rfl, t, C, dx, [], rfl, ht, c.cl, c.nL, by show 0 < 1000; decide, _, rfl, t, C, dx, _, rfl, upd_same, c.cl, c.nK, by show 1 < 1000; decide, ?_⟩
    have e1 : putF "kept" (V.int 0) (putF "letters" (V.str Str.empty) []) = fldW Str.empty 0 := by
      show (if ("letters" : Str) = "kept" then _ else (("letters" : Str), V.str Str.empty) :: putF "kept" (V.int 0) []) = _
      rw [if_neg lk_ne]
      rfl
    rw [e1]
    have e2 : ∀ (o1 o2 : HO), upd (upd H t o1) t o2 = upd H t o2 := fun o1 o2 => by
      funext a
      by_cases h : a = t
      · subst h
        rw [upd_same, upd_same]
      · rw [upd_ne h, upd_ne h, upd_ne h]
    rw [e2]
    exact q
end
section
variable {X : Cx} {W : WX} {a b c e o : Expr} {es : List Expr} {pos p ps apos : Pos} {C : Addr}
/-! ### len(w) -/
def lenT (T : PTW) : PTW := fun w k ds Q _ => ds = [] ∧ T w k [] (fun d w' k' => ∃ n : Nat, d = .int n ∧ n < 1000000 ∧ Q (.int n) w' k') (fun _ _ _ => False)
theorem lenT_mono {T : PTW} (h : MonoW T) : MonoW (lenT T) := fun w k ds Q Q' E E' hq he ⟨h0, hh⟩ => ⟨h0, h _ _ _ _ _ _ _ (fun d w k ⟨n, h1, h2, h3⟩ => ⟨n, h1, h2, hq _ _ _ h3⟩) (fun _ _ _ z => z) hh⟩
theorem cr_lenW {k : Nat} {f : Addr} {fd : FuncData} {sp : Sp} (hm : Meth X.K C "__len__" f) (F : FnOk X.prog X.w X.K X.mg X.base (L2N.CX X.prog X.w) k f fd ["self"] sp) (hb : Binds X.K fd ["self"] []) (hr : Room (k + 1) X.A) :
    CallR X (.builtin "len") (fun xs H Q => ∃ t dx fs, xs = [.ref t] ∧ H t = some (.ins C dx fs) ∧ sp [.ref t] H (fun v H' => ∃ n : Nat, v = .int (n : Int) ∧ n < 1000000 ∧ Q v H') (fun _ _ _ => False)) := by
  rintro pins s σ H xs us Q I r ⟨t, dx, fs, rfl, ht, want⟩
  obtain ⟨u, rfl, ru⟩ := vals1 r
  cases ru
  obtain ⟨mA, J, _⟩ := ins_get I.hok ht
  obtain ⟨od, J, _⟩ := J.look
  obtain ⟨mf, hF⟩ := I.fr
  refine PySem.W.len_K hF I.ok.mod.kin J hm.at_ hm.fn ?_
  have bd := hb s [.ref t] I.kIn rfl
  refine wpAny_call (codeAny_mono (F.run X.A.in1 X.stack s H ⟨[.ref t], []⟩ [.ref t] [.ref t] _ _ hr.in1 I.env0.in1 bd (.cons rfl .nil) want) fun rr s' hq => ?_)
  cases rr with
  | error ee => exact passes_no pins σ H s ee s' I hq
  | ok fl =>
    cases fl with
    | ret v =>
      obtain ⟨z, H', I', rz, n, rfl, hn, q⟩ := I.after hq
      obtain ⟨tk, rfl⟩ := rz
      exact ⟨⟨by omega, by omega⟩, .int (n : Int), H', I'.tok _, ⟨_, rfl⟩, q⟩
    | next => exact hq.elim
    | brk => exact hq.elim
    | cont => exact hq.elim
theorem de_lenW {i k : Nat} {T : PTW} (V : FnM X.prog X.w X.K X.mg X.base C "__len__" ["self"] k T) (hr : Room (k + 1) X.A) (hm : X.mg "len" = none) (ho : PE X o (tVar i)) (hg : Gl X "len" := by rfl) (hs : starEach [o] X.env = (false, eval o X.env) :: starEach [] X.env := by rfl) :
    DE X W (.Call (.Name "len" p) [o] [] pos) (wCallW C i (lenT T) wNil) := by
  obtain ⟨f, fd, F, hM, hb⟩ := V.ex
  refine ⟨pe_imp (pe_callB (cr_lenW hM F hb hr) hg hm PySem.boot_len (pa_cons ho pa_nil hs) (by decide) (by decide) hs rfl) fun σ H Q hh => ?_, wCallW_mono (lenT_mono V.mono) wNil_mono⟩
  obtain ⟨B, G, F', δ, R, ⟨t0, w0, k0, e0⟩, t, w, k, e1, _, h2⟩ := hh
  obtain ⟨dx, q0, _, _, q4⟩ := R.wr e1
  refine ⟨_, q0, t, dx, _, rfl, q4, ?_⟩
  refine spWr_of V.mono R e1 .nil (V.mono _ _ _ _ _ _ _ (fun x w' k' z => ?_) (fun cc w' k' z => z.elim) h2)
  obtain ⟨n, rfl, hn, z⟩ := z
  intro G' H' v g R' dv
  cases dv
  exact ⟨n, rfl, hn, z G' H' _ g R' (.int _)⟩
end
section
variable {X : Cx} {W : WX} {a b c e o : Expr} {es : List Expr} {pos p ps apos : Pos} {wr : WA}
/-! ### str(text) -/
def strF : List PyData → Option PyData
  | [.str z] => some (.str z)
  | _ => none
theorem callD_str : CallD (fun xs H Q => ∃ a, xs = [V.str a] ∧ Q (V.str a) H) strF := by
  intro G H vs ds d Q s h hf hg
  match ds, hf with
  | [.str z], hf =>
    obtain ⟨v, rfl, hv⟩ := dqAll1 h
    cases hv
    cases hf
    exact ⟨_, rfl, gives_val s hg (.str _)⟩
theorem de_strS (hm : X.mg "str" = none) (ha : DA X W (e :: es) wr) (hg : Gl X "str" := by rfl) (hs : starEach (e :: es) X.env = (false, eval e X.env) :: starEach es X.env := by rfl) (hp : (backTo pos (starEach es X.env)).any (·.1) = false := by rfl) :
    DE X W (.Call (.Name "str" p) (e :: es) [] pos) (wCallF strF wr) := de_callTy SkE.call_str_str callD_str hg hm (by decide +kernel) ha (by decide) (by decide) hs hp
end
/-! steps -/
section
variable {δ : DS} {Q : PyData → DS → Prop} {E : XC} {D : WEnds} {u : WS} {i : Nat} {C t : Addr} {w : List Nat} {k : Nat} {we : WE} {wr : WA} {T : PTW}
theorem u_fldL0 (h : wFldL C i δ Q E) : wFldL C i δ Q E := h
theorem u_fldK0 (h : wFldK C i δ Q E) : wFldK C i δ Q E := h
theorem e_fldL (h : δ[i]? = some (wrS t C w k)) (q : Q (S w) δ) : wFldL C i δ Q E := ⟨t, St w, (k : Int), h, q⟩
theorem e_fldK (h : δ[i]? = some (wrS t C w k)) (q : Q (.int (k : Int)) δ) : wFldK C i δ Q E := ⟨t, St w, (k : Int), h, q⟩
theorem s_putL (h : we δ (fun x δ' => ∃ z t w0 k, x = .str z ∧ δ'[i]? = some (.own (.wr t C w0 k)) ∧ u (δ'.set i (.own (.wr t C z k))) D) D.ex) : wSeq (wPutL C i we) u δ D := h
theorem e_putL0 {x : PyData} {P : Str → Addr → Int → Prop} (h : ∃ z t w0 k, x = .str z ∧ δ[i]? = some (.own (.wr t C w0 k)) ∧ P z t k) : ∃ z t w0 k, x = .str z ∧ δ[i]? = some (.own (.wr t C w0 k)) ∧ P z t k := h
theorem e_putL {z : List Nat} {P : Str → Addr → Int → Prop} (h : δ[i]? = some (wrS t C w k)) (q : P (St z) t (k : Int)) : ∃ z' t w0 k, S z = .str z' ∧ δ[i]? = some (.own (.wr t C w0 k)) ∧ P z' t k := ⟨St z, t, St w, (k : Int), rfl, h, q⟩
theorem u_callW0 (h : wCallW C i T wr δ Q E) : wCallW C i T wr δ Q E := h
theorem u_callWr (h0 : δ[i]? = some (wrS t C w k)) (h : wr δ (fun ds δ' => ∃ t w k, δ'[i]? = some (wrS t C w k) ∧ T w k ds (fun d w' k' => Q d (δ'.set i (wrS t C w' k'))) (fun cc w' k' => E cc (δ'.set i (wrS t C w' k')))) E) : wCallW C i T wr δ Q E := ⟨⟨t, w, k, h0⟩, h⟩
theorem e_callW0 {P : Addr → List Nat → Nat → Prop} (h : ∃ t w k, δ[i]? = some (wrS t C w k) ∧ P t w k) : ∃ t w k, δ[i]? = some (wrS t C w k) ∧ P t w k := h
theorem e_callW {P : Addr → List Nat → Nat → Prop} (h : δ[i]? = some (wrS t C w k)) (q : P t w k) : ∃ t w k, δ[i]? = some (wrS t C w k) ∧ P t w k := ⟨t, w, k, h, q⟩
theorem u_wnil {Q : List PyData → DS → Prop} (h : Q [] δ) : wNil δ Q E := h
end
end RD

/-! Periods, as the program asks for them. -/
namespace RD
open PySem L2
/-- p is a period of a: the word from p on is its own beginning -/
def perB (a : List Nat) (p : Nat) : Bool := decide (a.drop p = a.take (a.length - p))
def periodsL (a : List Nat) : List Nat := (List.range' 1 a.length).filter (perB a)
abbrev nats (L : List Nat) : List PyData := L.map fun k : Nat => PyData.int (k : Int)
/-- a border of this length -/
def bordB (a : List Nat) (k : Nat) : Bool := decide (a.take k = a.drop (a.length - k))
def bordersL (a : List Nat) : List (List Nat) := ((List.range' 1 (a.length - 1)).filter (bordB a)).map a.take
end RD

/-! Two periods and their greatest common divisor. -/
namespace RD
open PySem L2
def Per {α : Type} (f : Nat → α) (n p : Nat) : Prop := ∀ i, i + p < n → f i = f (i + p)
theorem per_mod {α : Type} {f : Nat → α} {n p : Nat} (h : Per f n p) : ∀ i, i < n → f i = f (i % p) := by
  intro i
  induction i using Nat.strongRecOn with
  | _ i ih =>
    intro hi
    by_cases hp : p = 0
    · subst hp
      simp
    · by_cases hl : i < p
      · rw [Nat.mod_eq_of_lt hl]
      · have h1 := h (i - p) (by omega)
        rw [show i - p + p = i by omega] at h1
        have h2 := ih (i - p) (by omega) (by omega)
        have h3 : i % p = (i - p) % p := Nat.mod_eq_sub_mod (by omega)
        rw [h3, ← h2, h1]
theorem mod_per {α : Type} {f : Nat → α} {n p : Nat} (h : ∀ i, i < n → f i = f (i % p)) : Per f n p := by
  intro i hi
  rw [h i (by omega), h (i + p) hi, Nat.add_mod_right]
theorem fine_wilf {α : Type} {f : Nat → α} : ∀ (s p q n : Nat), p + q = s → 0 < p → 0 < q → p + q - Nat.gcd p q ≤ n → Per f n p → Per f n q → Per f n (Nat.gcd p q) := by
  intro s
  induction s using Nat.strongRecOn with
  | _ s ih =>
    have key : ∀ p q n, p + q = s → 0 < p → p < q → p + q - Nat.gcd p q ≤ n → Per f n p → Per f n q → Per f n (Nat.gcd p q) := by
      intro p q n hs hp hq hn h1 h2
      have hg : Nat.gcd p (q - p) = Nat.gcd p q := by
        rw [Nat.gcd_sub_self_right (by omega)]
      have hd1 : Nat.gcd p q ∣ p := Nat.gcd_dvd_left p q
      have hd2 : Nat.gcd p q ∣ q - p := by
        rw [← hg]
        exact Nat.gcd_dvd_right p (q - p)
      have hle : Nat.gcd p q ≤ q - p := Nat.le_of_dvd (by omega) hd2
      have hr : Per f (n - p) (Nat.gcd p (q - p)) := by
        refine ih (p + (q - p)) (by omega) p (q - p) (n - p) rfl hp (by omega) (by rw [hg]; omega) (fun i hi => h1 i (by omega)) fun i hi => ?_
        have a1 := h2 i (by omega)
        have a2 := h1 (i + (q - p)) (by omega)
        rw [a2, a1]
        congr 1
        omega
      rw [hg] at hr
      refine mod_per fun i hi => ?_
      have hmod : i % p < p := Nat.mod_lt _ hp
      rw [per_mod h1 i hi, per_mod hr (i % p) (by omega), Nat.mod_mod_of_dvd _ hd1]
    intro p q n hs hp hq hn h1 h2
    rcases Nat.lt_trichotomy p q with h | h | h
    · exact key p q n hs hp h hn h1 h2
    · subst h
      rw [Nat.gcd_self]
      exact h1
    · rw [Nat.gcd_comm]
      rw [Nat.gcd_comm] at hn
      exact key q p n (by omega) hq h (by omega) h2 h1
theorem per_iff {a : List Nat} {p : Nat} (hp : p ≤ a.length) : perB a p = true ↔ Per (fun i => a[i]?) a.length p := by
  unfold perB
  rw [decide_eq_true_eq]
  constructor
  · intro h i hi
    have := congrArg (fun l => l[i]?) h
    simp only [List.getElem?_drop, List.getElem?_take] at this
    rw [if_pos (by omega), Nat.add_comm] at this
    exact this.symm
  · intro h
    apply List.ext_getElem?
    intro i
    rw [List.getElem?_drop, List.getElem?_take]
    by_cases hi : i < a.length - p
    · rw [if_pos hi, Nat.add_comm]
      exact (h i (by omega)).symm
    · rw [if_neg hi, List.getElem?_eq_none (by omega)]
theorem per_self (a : List Nat) : perB a a.length = true := by
  unfold perB
  simp
theorem per_gcd {a : List Nat} {p q : Nat} (hp0 : 0 < p) (hq0 : 0 < q) (hp : p ≤ a.length) (hq : q ≤ a.length) (h1 : perB a p = true) (h2 : perB a q = true) (hn : p + q - Nat.gcd p q ≤ a.length) : perB a (Nat.gcd p q) = true := by
  have : Nat.gcd p q ≤ p := Nat.gcd_le_left q hp0
  rw [per_iff (by omega)]
  exact fine_wilf _ p q _ rfl hp0 hq0 hn ((per_iff hp).mp h1) ((per_iff hq).mp h2)
theorem per_add {a : List Nat} {p q : Nat} (h : p + q ≤ a.length) (h1 : perB a p = true) (h2 : perB a q = true) : perB a (p + q) = true := by
  rw [per_iff h]
  intro i hi
  have a1 := (per_iff (by omega)).mp h1 i (by omega)
  have a2 := (per_iff (by omega)).mp h2 (i + p) (by omega)
  rw [a1, a2]
  congr 1
  omega
theorem mem_periods {a : List Nat} {p : Nat} : p ∈ periodsL a ↔ 0 < p ∧ p ≤ a.length ∧ perB a p = true := by
  unfold periodsL
  rw [List.mem_filter, List.mem_range'_1]
  constructor
  · rintro ⟨h1, h2⟩
    exact ⟨by omega, by omega, h2⟩
  · rintro ⟨h1, h2, h3⟩
    exact ⟨⟨by omega, by omega⟩, h3⟩
/-- letters that are p places apart -/
def repB (a : List Nat) (p : Nat) : Bool := (List.range (a.length - p)).all fun i => decide (a.getD i 0 = a.getD (i + p) 0)
theorem rep_per {a : List Nat} {p : Nat} (hp : p ≤ a.length) : repB a p = perB a p := by
  rw [Bool.eq_iff_iff, per_iff hp]
  unfold repB
  rw [List.all_eq_true]
  constructor
  · intro h i hi
    have := of_decide_eq_true (h i (List.mem_range.mpr (by omega)))
    simp only [List.getD_eq_getElem?_getD] at this
    show a[i]? = a[i + p]?
    rw [List.getElem?_eq_getElem (show i < a.length by omega), List.getElem?_eq_getElem hi] at this ⊢
    simpa using this
  · intro h i hi
    have hi := List.mem_range.mp hi
    have := h i (by omega)
    simp only [List.getD_eq_getElem?_getD, this, decide_true]
theorem bord_per {a : List Nat} {s : Nat} (h : s ≤ a.length) : bordB a s = perB a (a.length - s) := by
  unfold bordB perB
  rw [show a.length - (a.length - s) = s by omega]
  exact decide_eq_decide.mpr eq_comm
/-- the borders tell the periods -/
theorem borders_periods (a : List Nat) : ((bordersL a).map fun e => a.length - e.length).reverse = (periodsL a).take ((periodsL a).length - 1) := by
  have e2 : periodsL a = (List.range' 1 (a.length - 1)).filter (perB a) ++ (if a = [] then [] else [a.length]) := by
    unfold periodsL
    by_cases ha : a = []
    · subst ha
      rfl
    · have hl : 0 < a.length := List.length_pos_iff.mpr ha
      rw [if_neg ha]
      conv => lhs; rw [show a.length = (a.length - 1) + 1 by omega, List.range'_concat]
      rw [List.filter_append]
      congr 1
      rw [show 1 + 1 * (a.length - 1) = a.length by omega]
      simp [per_self]
  have e3 : (periodsL a).take ((periodsL a).length - 1) = (List.range' 1 (a.length - 1)).filter (perB a) := by
    rw [e2]
    by_cases ha : a = []
    · subst ha
      rfl
    · rw [if_neg ha]
      simp
  rw [e3]
  unfold bordersL
  rw [List.map_map]
  have e4 : ((List.range' 1 (a.length - 1)).filter (bordB a)).map ((fun e => a.length - e.length) ∘ a.take) = ((List.range' 1 (a.length - 1)).filter (bordB a)).map (fun k => a.length - k) := by
    apply List.map_congr_left
    intro k hk
    have := List.mem_range'_1.mp (List.mem_filter.mp hk).1
    simp only [Function.comp, List.length_take]
    omega
  rw [e4]
  have e5 : (List.range' 1 (a.length - 1)).filter (bordB a) = (List.range' 1 (a.length - 1)).filter (fun k => perB a (a.length - k)) := by
    apply List.filter_congr
    intro k hk
    have := List.mem_range'_1.mp hk
    exact bord_per (by omega)
  rw [e5]
  have e6 : ((List.range' 1 (a.length - 1)).map fun k => a.length - k).reverse = List.range' 1 (a.length - 1) := by
    apply List.ext_getElem
    · simp
    · intro i h1 h2
      simp at h1 h2 ⊢
      omega
  have e7 : ((List.range' 1 (a.length - 1)).filter (fun k => perB a (a.length - k))).map (fun k => a.length - k) = ((List.range' 1 (a.length - 1)).map (fun k => a.length - k)).filter (perB a) := by
    rw [List.filter_map]
    rfl
  rw [e7, ← List.filter_reverse, e6]
theorem mem_borders {a e : List Nat} (h : e ∈ bordersL a) : ∃ k, 0 < k ∧ k < a.length ∧ e = a.take k ∧ a.take k = a.drop (a.length - k) := by
  unfold bordersL at h
  obtain ⟨k, hk, rfl⟩ := List.mem_map.mp h
  obtain ⟨h1, h2⟩ := List.mem_filter.mp hk
  have := List.mem_range'_1.mp h1
  exact ⟨k, by omega, by omega, rfl, of_decide_eq_true h2⟩
theorem borders_cp {a : List Nat} (h : cpW a) : ∀ e ∈ bordersL a, cpW e := by
  intro e he
  obtain ⟨k, _, _, rfl, _⟩ := mem_borders he
  exact cpW_take h k
theorem borders_len (a : List Nat) : (bordersL a).length ≤ a.length := by
  unfold bordersL
  rw [List.length_map]
  have := List.length_filter_le (bordB a) (List.range' 1 (a.length - 1))
  simp at this
  omega
theorem periods_last {a : List Nat} (h : a ≠ []) : (periodsL a).getLast? = some a.length := by
  have hl : 0 < a.length := List.length_pos_iff.mpr h
  unfold periodsL
  conv => lhs; rw [show a.length = (a.length - 1) + 1 by omega, List.range'_concat]
  rw [List.filter_append, show 1 + 1 * (a.length - 1) = a.length by omega]
  simp [per_self]
end RD

/-! Mirrors and mirrorings. -/
namespace RD
open PySem L2
def mirB (a : List Nat) : Bool := !decide (a = []) && decide (a = a.reverse)
theorem mirB_iff {a : List Nat} : mirB a = true ↔ a ≠ [] ∧ a = a.reverse := by
  unfold mirB
  simp
/-- where the mirrors begin that end at e -/
def starts (a : List Nat) (e : Nat) : List Nat := (List.range e).filter fun s => mirB ((a.take e).drop s)
theorem mem_starts {a : List Nat} {e s : Nat} : s ∈ starts a e ↔ s < e ∧ mirB ((a.take e).drop s) = true := by
  unfold starts
  rw [List.mem_filter, List.mem_range]
theorem last_start {a : List Nat} {e : Nat} (h : e < a.length) : e ∈ starts a (e + 1) := by
  rw [mem_starts]
  refine ⟨by omega, ?_⟩
  rw [List.drop_take, show e + 1 - e = 1 by omega]
  have : (a.drop e).take 1 = [a[e]] := by
    rw [List.drop_eq_getElem_cons h]
    rfl
  rw [this, mirB_iff]
  simp
/-! ### the least of mirrorings, as min takes it -/
def pairM (x : List (List Nat)) : PyData := .tuple [.int ((x.length : Int) - 1), .list (x.map S)]
def mlt (x y : List (List Nat)) : Bool := PySem.W.dataLt (pairM x) (pairM y)
def minM : List (List (List Nat)) → List (List Nat)
  | [] => []
  | x :: xs => xs.foldl (fun a y => if mlt y a = true then y else a) x
theorem alike_words : ∀ x y : List (List Nat), PySem.W.alikeAll (x.map S) (y.map S) = true
  | [], _ => by simp [PySem.W.alikeAll]
  | _ :: _, [] => by simp [PySem.W.alikeAll]
  | a :: x, b :: y => by
    simp only [List.map_cons, PySem.W.alikeAll, alike_words x y, Bool.and_true]
    rfl
theorem mlt_lt {x y : List (List Nat)} (h : x.length < y.length) : mlt x y = true ∧ mlt y x = false := by
  have hal : ∀ x y : List (List Nat), PySem.W.alike (.list (x.map S)) (.list (y.map S)) = true := fun x y => by
    simp only [PySem.W.alike]
    exact alike_words x y
  unfold mlt pairM
  rw [PySem.W.dataLt_pair rfl (hal _ _), PySem.W.dataLt_pair rfl (hal _ _), eqv_I, eqv_I, dataLt_I, dataLt_I]
  have e1 : ¬ ((x.length : Int) - 1 = (y.length : Int) - 1) := by omega
  have e2 : ¬ ((y.length : Int) - 1 = (x.length : Int) - 1) := by omega
  rw [decide_eq_false e1, decide_eq_false e2]
  simp
  omega
theorem minM_fold : ∀ (L : List (List (List Nat))) (x : List (List Nat)), (L.foldl (fun a y => if mlt y a = true then y else a) x ∈ x :: L) ∧ ∀ y ∈ x :: L, (L.foldl (fun a y => if mlt y a = true then y else a) x).length ≤ y.length
  | [], x => by simp
  | z :: L, x => by
    rw [List.foldl_cons]
    obtain ⟨h1, h2⟩ := minM_fold L (if mlt z x = true then z else x)
    have hle : (if mlt z x = true then z else x).length ≤ z.length ∧ (if mlt z x = true then z else x).length ≤ x.length := by
      by_cases h : mlt z x = true
      · rw [if_pos h]
        refine ⟨Nat.le_refl _, ?_⟩
        rcases Nat.lt_or_ge x.length z.length with q | q
        · rw [(mlt_lt q).2] at h
          cases h
        · exact q
      · rw [if_neg h]
        refine ⟨?_, Nat.le_refl _⟩
        rcases Nat.lt_or_ge z.length x.length with q | q
        · exact absurd (mlt_lt q).1 h
        · exact q
    have h3 := h2 _ List.mem_cons_self
    refine ⟨?_, fun y hy => ?_⟩
    · rcases List.mem_cons.mp h1 with q | q
      · rw [q]
        by_cases h : mlt z x = true
        · rw [if_pos h]
          simp
        · rw [if_neg h]
          simp
      · simp [q]
    · rcases List.mem_cons.mp hy with q | q
      · subst q
        omega
      · rcases List.mem_cons.mp q with q | q
        · subst q
          omega
        · exact h2 y (List.mem_cons_of_mem _ q)
theorem minM_is {L : List (List (List Nat))} (h : L ≠ []) : minM L ∈ L ∧ ∀ y ∈ L, (minM L).length ≤ y.length := by
  cases L with
  | nil => exact absurd rfl h
  | cons x L => exact minM_fold L x
theorem minF_pairM {L : List (List (List Nat))} (h : L ≠ []) : minF [.list (L.map pairM)] = some (pairM (minM L)) := by
  cases L with
  | nil => exact absurd rfl h
  | cons x L =>
    have e1 : allAlike ((x :: L).map pairM) = true := by
      unfold allAlike
      simp only [Bool.and_eq_true, List.all_eq_true, decide_eq_true_eq]
      refine ⟨⟨fun y hy z hz => ?_, fun y hy => ?_⟩, ?_⟩
      · obtain ⟨y, _, rfl⟩ := List.mem_map.mp hy
        obtain ⟨z, _, rfl⟩ := List.mem_map.mp hz
        simp [pairM, PySem.W.alike, PySem.W.alikeAll, alike_words]
      · obtain ⟨y, _, rfl⟩ := List.mem_map.mp hy
        rfl
      · have : ∀ M : List (List (List Nat)), PyData.depthAll (M.map pairM) ≤ 3 := fun M => by
          induction M with
          | nil => simp [PyData.depthAll]
          | cons y M ih =>
            have hd : PyData.depthAll (y.map S) = 0 := depth_S y
            simp only [List.map_cons, PyData.depthAll, pairM, PyData.depth, hd]
            omega
        have := this (x :: L)
        omega
    simp only [List.map_cons] at e1 ⊢
    simp only [minF]
    rw [if_pos e1]
    congr 1
    unfold PySem.W.minD
    simp only [minM]
    clear e1 h
    induction L generalizing x with
    | nil => rfl
    | cons z L ih =>
      rw [List.map_cons, List.foldl_cons, List.foldl_cons]
      have : (if PySem.W.dataLt (pairM z) (pairM x) = true then pairM z else pairM x) = pairM (if mlt z x = true then z else x) := by
        unfold mlt
        split <;> rfl
      rw [this, ih]
/-! ### the tables -/
def minN : List Nat → Nat
  | [] => 0
  | x :: xs => xs.foldl (fun a y => if y < a then y else a) x
theorem minN_fold : ∀ (L : List Nat) (x : Nat), (L.foldl (fun a y => if y < a then y else a) x ∈ x :: L) ∧ ∀ y ∈ x :: L, L.foldl (fun a y => if y < a then y else a) x ≤ y
  | [], x => by simp
  | z :: L, x => by
    rw [List.foldl_cons]
    obtain ⟨h1, h2⟩ := minN_fold L (if z < x then z else x)
    have h3 := h2 _ List.mem_cons_self
    refine ⟨?_, fun y hy => ?_⟩
    · rcases List.mem_cons.mp h1 with q | q
      · rw [q]
        split <;> simp
      · simp [q]
    · rcases List.mem_cons.mp hy with q | q
      · subst q
        have : (if z < y then z else y) ≤ y := by split <;> omega
        omega
      · rcases List.mem_cons.mp q with q | q
        · subst q
          have : (if y < x then y else x) ≤ y := by split <;> omega
          omega
        · exact h2 y (List.mem_cons_of_mem _ q)
theorem minN_is {L : List Nat} (h : L ≠ []) : minN L ∈ L ∧ ∀ y ∈ L, minN L ≤ y := by
  cases L with
  | nil => exact absurd rfl h
  | cons x L => exact minN_fold L x
def bst (a : List Nat) : Nat → List (List (List Nat))
  | 0 => [[]]
  | n + 1 => bst a n ++ [minM ((starts a (n + 1)).map fun s => (bst a n).getD s [] ++ [(a.take (n + 1)).drop s])]
def lst (a : List Nat) : Nat → List Nat
  | 0 => [0]
  | n + 1 => lst a n ++ [minN ((starts a (n + 1)).map fun s => (lst a n).getD s 0 + 1)]
theorem bst_len (a : List Nat) : ∀ n, (bst a n).length = n + 1
  | 0 => rfl
  | n + 1 => by simp [bst, bst_len a n]
theorem lst_len (a : List Nat) : ∀ n, (lst a n).length = n + 1
  | 0 => rfl
  | n + 1 => by simp [lst, lst_len a n]
/-- the mirroring of the first e letters, and how many mirrors it has -/
def bstAt (a : List Nat) (e : Nat) : List (List Nat) := (bst a e).getD e []
def lstAt (a : List Nat) (e : Nat) : Nat := (lst a e).getD e 0
theorem bst_get (a : List Nat) : ∀ n e, e ≤ n → (bst a n).getD e [] = bstAt a e
  | 0, e, h => by
    have : e = 0 := by omega
    subst this
    rfl
  | n + 1, e, h => by
    by_cases he : e = n + 1
    · subst he
      rfl
    · have := bst_get a n e (by omega)
      simp only [bst, List.getD_eq_getElem?_getD] at this ⊢
      rw [List.getElem?_append_left (by rw [bst_len]; omega)]
      exact this
theorem lst_get (a : List Nat) : ∀ n e, e ≤ n → (lst a n).getD e 0 = lstAt a e
  | 0, e, h => by
    have : e = 0 := by omega
    subst this
    rfl
  | n + 1, e, h => by
    by_cases he : e = n + 1
    · subst he
      rfl
    · have := lst_get a n e (by omega)
      simp only [lst, List.getD_eq_getElem?_getD] at this ⊢
      rw [List.getElem?_append_left (by rw [lst_len]; omega)]
      exact this
theorem bstAt_zero (a : List Nat) : bstAt a 0 = [] := rfl
theorem lstAt_zero (a : List Nat) : lstAt a 0 = 0 := rfl
theorem bstAt_succ (a : List Nat) (n : Nat) : bstAt a (n + 1) = minM ((starts a (n + 1)).map fun s => bstAt a s ++ [(a.take (n + 1)).drop s]) := by
  unfold bstAt
  simp only [bst]
  rw [List.getD_eq_getElem?_getD, List.getElem?_append_right (by rw [bst_len]; omega), bst_len]
  simp only [Nat.sub_self, List.getElem?_cons_zero, Option.getD_some]
  congr 1
  apply List.map_congr_left
  intro s hs
  have := (mem_starts.mp hs).1
  rw [bst_get a n s (by omega)]
  rfl
theorem lstAt_succ (a : List Nat) (n : Nat) : lstAt a (n + 1) = minN ((starts a (n + 1)).map fun s => lstAt a s + 1) := by
  unfold lstAt
  simp only [lst]
  rw [List.getD_eq_getElem?_getD, List.getElem?_append_right (by rw [lst_len]; omega), lst_len]
  simp only [Nat.sub_self, List.getElem?_cons_zero, Option.getD_some]
  congr 1
  apply List.map_congr_left
  intro s hs
  have := (mem_starts.mp hs).1
  rw [lst_get a n s (by omega)]
  rfl
theorem bst_succ (a : List Nat) (n : Nat) : bst a (n + 1) = bst a n ++ [bstAt a (n + 1)] := by
  have h : bstAt a (n + 1) = minM ((starts a (n + 1)).map fun s => (bst a n).getD s [] ++ [(a.take (n + 1)).drop s]) := by
    unfold bstAt
    simp only [bst]
    rw [List.getD_eq_getElem?_getD, List.getElem?_append_right (by rw [bst_len]; omega), bst_len]
    simp only [Nat.sub_self, List.getElem?_cons_zero, Option.getD_some]
  rw [h]
  rfl
theorem lst_succ (a : List Nat) (n : Nat) : lst a (n + 1) = lst a n ++ [lstAt a (n + 1)] := by
  have h : lstAt a (n + 1) = minN ((starts a (n + 1)).map fun s => (lst a n).getD s 0 + 1) := by
    unfold lstAt
    simp only [lst]
    rw [List.getD_eq_getElem?_getD, List.getElem?_append_right (by rw [lst_len]; omega), lst_len]
    simp only [Nat.sub_self, List.getElem?_cons_zero, Option.getD_some]
  rw [h]
  rfl
/-- a mirroring -/
def Mk (a : List Nat) (L : List (List Nat)) : Prop := L.flatten = a ∧ ∀ w ∈ L, mirB w = true
theorem starts_ne {a : List Nat} {n : Nat} (h : n < a.length) : starts a (n + 1) ≠ [] := fun z => by
  have := last_start h
  rw [z] at this
  cases this
/-- the table holds a mirroring, and no shorter one is there -/
theorem table (a : List Nat) : ∀ e, e ≤ a.length → Mk (a.take e) (bstAt a e) ∧ (bstAt a e).length = lstAt a e ∧ ∀ L, Mk (a.take e) L → lstAt a e ≤ L.length := by
  intro e
  induction e using Nat.strongRecOn with
  | _ e ih =>
    intro he
    cases e with
    | zero => exact ⟨⟨rfl, (fun w hw => by cases hw)⟩, rfl, fun L _ => Nat.zero_le _⟩
    | succ n =>
      have hne := starts_ne (show n < a.length by omega)
      have h1 := minM_is (L := (starts a (n + 1)).map fun s => bstAt a s ++ [(a.take (n + 1)).drop s]) (by simpa using hne)
      have h2 := minN_is (L := (starts a (n + 1)).map fun s => lstAt a s + 1) (by simpa using hne)
      rw [← bstAt_succ] at h1
      rw [← lstAt_succ] at h2
      obtain ⟨s, hs, es⟩ := List.mem_map.mp h1.1
      obtain ⟨t, ht, et⟩ := List.mem_map.mp h2.1
      obtain ⟨s1, s2⟩ := mem_starts.mp hs
      obtain ⟨t1, t2⟩ := mem_starts.mp ht
      obtain ⟨⟨i1, i2⟩, i3, i4⟩ := ih s s1 (by omega)
      have j3 := (ih t t1 (by omega)).2.1
      have k1 := h1.2 _ (List.mem_map_of_mem (f := fun s => bstAt a s ++ [(a.take (n + 1)).drop s]) ht)
      have k2 := h2.2 _ (List.mem_map_of_mem (f := fun s => lstAt a s + 1) hs)
      have l1 : (bstAt a (n + 1)).length = (bstAt a s).length + 1 := by
        rw [← es]
        simp
      simp only [List.length_append, List.length_singleton] at k1
      have hcut : a.take s ++ (a.take (n + 1)).drop s = a.take (n + 1) := by
        rw [show a.take s = (a.take (n + 1)).take s by rw [List.take_take, Nat.min_eq_left (by omega)]]
        exact List.take_append_drop s _
      refine ⟨⟨?_, fun w hw => ?_⟩, by omega, fun L hL => ?_⟩
      · rw [← es, List.flatten_append, i1]
        simpa using hcut
      · rw [← es] at hw
        rcases List.mem_append.mp hw with q | q
        · exact i2 w q
        · have : w = (a.take (n + 1)).drop s := by simpa using q
          rw [this]
          exact s2
      · obtain ⟨q1, q2⟩ := hL
        have hLne : L ≠ [] := by
          rintro rfl
          have := congrArg List.length q1
          simp at this
          omega
        obtain ⟨L', w, rfl⟩ : ∃ L' w, L = L' ++ [w] := ⟨L.dropLast, L.getLast hLne, (List.dropLast_concat_getLast hLne).symm⟩
        have q1' : L'.flatten ++ w = a.take (n + 1) := by simpa using q1
        have hlen := congrArg List.length q1'
        simp only [List.length_append, List.length_take] at hlen
        have hw := q2 w (by simp)
        have hw0 : 0 < w.length := List.length_pos_iff.mpr (mirB_iff.mp hw).1
        have e1 : a.take L'.flatten.length = L'.flatten := by
          have := congrArg (List.take L'.flatten.length) q1'
          rw [List.take_left', List.take_take, Nat.min_eq_left (by omega)] at this
          · exact this.symm
          · rfl
        have e2 : (a.take (n + 1)).drop L'.flatten.length = w := by
          rw [← q1', List.drop_left']
          rfl
        have hm : L'.flatten.length ∈ starts a (n + 1) := mem_starts.mpr ⟨by omega, by rw [e2]; exact hw⟩
        have := (ih L'.flatten.length (by omega) (by omega)).2.2 L' ⟨e1.symm, fun v hv => q2 v (by simp [hv])⟩
        have := h2.2 _ (List.mem_map_of_mem (f := fun s => lstAt a s + 1) hm)
        simp only [List.length_append, List.length_singleton]
        omega
/-- the fewest mirrors, and a mirroring with so many -/
def fewN (a : List Nat) : Nat := lstAt a a.length
def bestL (a : List Nat) : List (List Nat) := bstAt a a.length
theorem best_mk (a : List Nat) : Mk a (bestL a) := by
  have := (table a a.length (Nat.le_refl _)).1
  rwa [List.take_length] at this
theorem best_len (a : List Nat) : (bestL a).length = fewN a := (table a a.length (Nat.le_refl _)).2.1
theorem few_le {a : List Nat} {L : List (List Nat)} (h : Mk a L) : fewN a ≤ L.length := (table a a.length (Nat.le_refl _)).2.2 L (by rwa [List.take_length])
theorem mk_rev {a : List Nat} {L : List (List Nat)} (h : Mk a L) : Mk a.reverse L.reverse := by
  obtain ⟨h1, h2⟩ := h
  refine ⟨?_, fun w hw => h2 w (List.mem_reverse.mp hw)⟩
  rw [← h1, List.reverse_flatten]
  congr 2
  symm
  conv => rhs; rw [← List.map_id L]
  apply List.map_congr_left
  intro w hw
  exact (mirB_iff.mp (h2 w hw)).2.symm
theorem few_rev (a : List Nat) : fewN a.reverse = fewN a := by
  have h1 := few_le (mk_rev (best_mk a))
  have h2 := few_le (mk_rev (best_mk a.reverse))
  rw [List.reverse_reverse, List.length_reverse, best_len] at h2
  rw [List.length_reverse, best_len] at h1
  omega
theorem few_pos {a : List Nat} (h : a ≠ []) : 0 < fewN a := by
  rw [← best_len]
  rcases Nat.eq_zero_or_pos (bestL a).length with q | q
  · have := (best_mk a).1
    rw [List.length_eq_zero_iff.mp q] at this
    exact absurd this.symm h
  · exact q
theorem few_one {a : List Nat} (h : a ≠ []) : fewN a = 1 ↔ mirB a = true := by
  constructor
  · intro q
    have hb := best_mk a
    have hl := best_len a
    rw [q] at hl
    obtain ⟨w, hw⟩ := List.length_eq_one_iff.mp hl
    rw [hw] at hb
    obtain ⟨h1, h2⟩ := hb
    have : w = a := by simpa using h1
    rw [← this]
    exact h2 w (by simp)
  · intro q
    have := few_le (a := a) (L := [a]) ⟨by simp, by simpa using q⟩
    have := few_pos h
    simp at *
    omega
theorem few_less {a : List Nat} : fewN a ≤ fewN (a.take (a.length - 1)) + 1 := by
  rcases Nat.eq_zero_or_pos a.length with q | q
  · have := List.length_eq_zero_iff.mp q
    subst this
    decide
  · have hb := best_mk (a.take (a.length - 1))
    have h1 : a.take (a.length - 1) ++ a.drop (a.length - 1) = a := List.take_append_drop _ _
    have h2 : (a.drop (a.length - 1)).length = 1 := by simp; omega
    obtain ⟨c, hc⟩ := List.length_eq_one_iff.mp h2
    have := few_le (a := a) (L := bestL (a.take (a.length - 1)) ++ [[c]]) ⟨by rw [List.flatten_append, hb.1, ← hc]; simpa using h1, fun w hw => by
      rcases List.mem_append.mp hw with z | z
      · exact hb.2 w z
      · have : w = [c] := by simpa using z
        rw [this, mirB_iff]
        simp⟩
    rw [List.length_append, best_len] at this
    simpa using this
theorem minF_nats {L : List Nat} (h : L ≠ []) : minF [.list (L.map fun k : Nat => PyData.int (k : Int))] = some (.int (minN L : Nat)) := by
  cases L with
  | nil => exact absurd rfl h
  | cons x L =>
    have e1 : allAlike ((x :: L).map fun k : Nat => PyData.int (k : Int)) = true := by
      unfold allAlike
      simp only [Bool.and_eq_true, List.all_eq_true, decide_eq_true_eq]
      refine ⟨⟨fun y hy z hz => ?_, fun y hy => ?_⟩, ?_⟩
      · obtain ⟨y, _, rfl⟩ := List.mem_map.mp hy
        obtain ⟨z, _, rfl⟩ := List.mem_map.mp hz
        rfl
      · obtain ⟨y, _, rfl⟩ := List.mem_map.mp hy
        rfl
      · have : ∀ M : List Nat, PyData.depthAll (M.map fun k : Nat => PyData.int (k : Int)) = 0 := fun M => by
          induction M with
          | nil => simp [PyData.depthAll]
          | cons y M ih => simp [PyData.depthAll, PyData.depth, ih]
        rw [this]
        omega
    simp only [List.map_cons] at e1 ⊢
    simp only [minF]
    rw [if_pos e1]
    congr 1
    unfold PySem.W.minD
    simp only [minN]
    clear e1 h
    induction L generalizing x with
    | nil => rfl
    | cons z L ih =>
      rw [List.map_cons, List.foldl_cons, List.foldl_cons]
      have : (if PySem.W.dataLt (PyData.int (z : Int)) (PyData.int (x : Int)) = true then PyData.int (z : Int) else PyData.int (x : Int)) = PyData.int ((if z < x then z else x : Nat) : Int) := by
        rw [dataLt_I]
        by_cases hz : z < x
        · rw [decide_eq_true (by omega), if_pos rfl, if_pos hz]
        · rw [decide_eq_false (by omega), if_neg (by decide), if_neg hz]
      rw [this, ih]
theorem mir_back {a : List Nat} {s e : Nat} (h1 : s < e) (h2 : e ≤ a.length) : decide (((a.take e).drop s).reverse = (a.take e).drop s) = mirB ((a.take e).drop s) := by
  have : (a.take e).drop s ≠ [] := fun z => by
    have := congrArg List.length z
    simp at this
    omega
  unfold mirB
  rw [decide_eq_false this]
  simp only [Bool.not_false, Bool.true_and]
  exact decide_eq_decide.mpr eq_comm
theorem best_word {a : List Nat} (h : wordB a = true) : ∀ w ∈ bestL a, wordB w = true := by
  intro w hw
  have hm := (best_mk a).1
  have hl := wordB_len h
  have h1 : ∀ c ∈ w, c ∈ a := fun c hc => by
    rw [← hm]
    exact List.mem_flatten.mpr ⟨w, hw, hc⟩
  refine wordB_mk ?_ fun c hc => wordB_let h c (h1 c hc)
  have : ∀ L : List (List Nat), w ∈ L → w.length ≤ L.flatten.length := fun L => by
    induction L with
    | nil => intro z; cases z
    | cons v L ih =>
      intro z
      rcases List.mem_cons.mp z with q | q
      · subst q
        simp
      · have := ih q
        simp only [List.flatten_cons, List.length_append]
        omega
  have := this _ hw
  rw [hm] at this
  omega
theorem few_len (a : List Nat) : fewN a ≤ a.length := by
  have h : Mk a (a.map fun c => [c]) := by
    refine ⟨?_, fun w hw => ?_⟩
    · induction a with
      | nil => rfl
      | cons c a ih => simpa using ih
    · obtain ⟨c, _, rfl⟩ := List.mem_map.mp hw
      rw [mirB_iff]
      simp
  have := few_le h
  simpa using this
end RD

/-! Roots, powers, turned words. -/
namespace RD
open PySem L2
/-- a power -/
def pw (r : List Nat) (k : Nat) : List Nat := (List.replicate k r).flatten
theorem pw_zero (r : List Nat) : pw r 0 = [] := rfl
theorem pw_succ (r : List Nat) (k : Nat) : pw r (k + 1) = r ++ pw r k := by simp [pw, List.replicate_succ]
theorem pw_one (r : List Nat) : pw r 1 = r := by simp [pw]
theorem pw_len (r : List Nat) : ∀ k, (pw r k).length = k * r.length
  | 0 => by simp [pw]
  | k + 1 => by rw [pw_succ, List.length_append, pw_len r k, Nat.succ_mul, Nat.add_comm]
theorem pw_succ' (r : List Nat) : ∀ k, pw r (k + 1) = pw r k ++ r
  | 0 => by simp [pw]
  | k + 1 => by
    have h := pw_succ' r k
    rw [pw_succ, h, ← List.append_assoc, ← pw_succ, h]
theorem pw_add (r : List Nat) (i : Nat) : ∀ j, pw r (i + j) = pw r i ++ pw r j
  | 0 => by simp [pw_zero]
  | j + 1 => by rw [← Nat.add_assoc, pw_succ', pw_add r i j, pw_succ', List.append_assoc]
theorem pw_mul (r : List Nat) (i : Nat) : ∀ j, pw (pw r i) j = pw r (i * j)
  | 0 => rfl
  | j + 1 => by rw [pw_succ, pw_mul r i j, Nat.mul_succ, Nat.add_comm, pw_add]
/-- a period that divides the length makes a power -/
theorem pw_of_per {p : Nat} : ∀ (k : Nat) (a : List Nat), a.length = k * p → perB a p = true → a = pw (a.take p) k
  | 0, a, h, _ => by
    have : a = [] := List.length_eq_zero_iff.mp (by omega)
    subst this
    rfl
  | 1, a, h, _ => by
    rw [pw_one, List.take_of_length_le (by omega)]
  | k + 2, a, h, hp => by
    have hl : a.length = (k + 1) * p + p := by rw [h, ← Nat.succ_mul]
    have hp' : p ≤ (k + 1) * p := Nat.le_mul_of_pos_left p (by omega)
    have hd := of_decide_eq_true hp
    have e0 : a.length - p = (k + 1) * p := by omega
    rw [e0] at hd
    have hper : perB (a.drop p) p = true := by
      unfold perB
      rw [decide_eq_true_eq, hd, List.length_take, Nat.min_eq_left (by omega), List.drop_take, hd, List.take_take]
    have ht : (a.drop p).take p = a.take p := by
      rw [hd, List.take_take, Nat.min_eq_left hp']
    have ih := pw_of_per (k + 1) (a.drop p) (by rw [List.length_drop]; omega) hper
    rw [ht] at ih
    rw [pw_succ, ← ih, List.take_append_drop]
theorem per_pw (r : List Nat) : ∀ k, perB (pw r k) r.length = true ∨ k = 0
  | 0 => .inr rfl
  | k + 1 => by
    left
    unfold perB
    rw [decide_eq_true_eq, pw_len, Nat.succ_mul, Nat.add_sub_cancel]
    conv => lhs; rw [pw_succ, List.drop_left' rfl]
    rw [pw_succ', List.take_left' (pw_len r k)]
theorem per_pow {r : List Nat} {k : Nat} (h : 0 < k) : perB (pw r k) r.length = true := (per_pw r k).resolve_right (by omega)
theorem take_pw {r : List Nat} {k : Nat} (h : 0 < k) : (pw r k).take r.length = r := by
  obtain ⟨k, rfl⟩ : ∃ m, k = m + 1 := ⟨k - 1, by omega⟩
  rw [pw_succ, List.take_left' rfl]
theorem pw_inj {r s : List Nat} {k : Nat} (h : 0 < k) (hl : r.length = s.length) (e : pw r k = pw s k) : r = s := by
  have h1 := take_pw (r := r) h
  have h2 := take_pw (r := s) h
  rw [← h1, ← h2, e, hl]
/-! ### the root -/
def rootC (a : List Nat) : List Nat := (periodsL a).filter fun p => decide (a.length % p = 0)
def rootN (a : List Nat) : Nat := (rootC a).headD 0
def rootL (a : List Nat) : List Nat := a.take (rootN a)
theorem rootC_ne {a : List Nat} (h : a ≠ []) : rootC a ≠ [] := fun z => by
  have hl : 0 < a.length := List.length_pos_iff.mpr h
  have : a.length ∈ rootC a := by
    unfold rootC
    rw [List.mem_filter, mem_periods]
    exact ⟨⟨hl, Nat.le_refl _, per_self a⟩, by simp⟩
  rw [z] at this
  cases this
theorem rootC_head {a : List Nat} (h : a ≠ []) : ∃ t, rootC a = rootN a :: t := by
  unfold rootN
  cases hc : rootC a with
  | nil => exact absurd hc (rootC_ne h)
  | cons x t => exact ⟨t, rfl⟩
theorem rootN_mem {a : List Nat} (h : a ≠ []) : rootN a ∈ rootC a := by
  obtain ⟨t, e⟩ := rootC_head h
  rw [e]
  exact List.mem_cons_self
theorem rootN_is {a : List Nat} (h : a ≠ []) : 0 < rootN a ∧ rootN a ≤ a.length ∧ perB a (rootN a) = true ∧ a.length % rootN a = 0 := by
  have := rootN_mem h
  unfold rootC at this
  rw [List.mem_filter, mem_periods] at this
  exact ⟨this.1.1, this.1.2.1, this.1.2.2, by simpa using this.2⟩
theorem rootN_le {a : List Nat} {p : Nat} (h0 : 0 < p) (h1 : p ≤ a.length) (h2 : perB a p = true) (h3 : a.length % p = 0) : rootN a ≤ p := by
  have hm : p ∈ rootC a := by
    unfold rootC
    rw [List.mem_filter, mem_periods]
    exact ⟨⟨h0, h1, h2⟩, by simpa using h3⟩
  have hne : a ≠ [] := fun z => by
    subst z
    simp at h1
    omega
  obtain ⟨t, e⟩ := rootC_head hne
  have hs : (rootC a).Pairwise (· < ·) := by
    unfold rootC periodsL
    exact List.Pairwise.filter _ (List.Pairwise.filter _ List.pairwise_lt_range')
  rw [e] at hs hm
  rcases List.mem_cons.mp hm with q | q
  · omega
  · have := (List.pairwise_cons.mp hs).1 p q
    omega
theorem rootL_len {a : List Nat} (h : a ≠ []) : (rootL a).length = rootN a := by
  have := rootN_is h
  unfold rootL
  rw [List.length_take]
  omega
theorem rootL_ne {a : List Nat} (h : a ≠ []) : rootL a ≠ [] := fun z => by
  have h1 := rootL_len h
  have h2 := rootN_is h
  rw [z] at h1
  simp at h1
  omega
def expN (a : List Nat) : Nat := a.length / rootN a
theorem exp_mul {a : List Nat} (h : a ≠ []) : a.length = expN a * rootN a := by
  have := rootN_is h
  unfold expN
  exact (Nat.div_mul_cancel (Nat.dvd_of_mod_eq_zero this.2.2.2)).symm
theorem exp_pos {a : List Nat} (h : a ≠ []) : 0 < expN a := by
  have h1 := exp_mul h
  have h2 : 0 < a.length := List.length_pos_iff.mpr h
  rcases Nat.eq_zero_or_pos (expN a) with q | q
  · rw [q] at h1
    omega
  · exact q
theorem root_pw {a : List Nat} (h : a ≠ []) : a = pw (rootL a) (expN a) := pw_of_per (expN a) a (exp_mul h) (rootN_is h).2.2.1
/-- two periods that divide the length -/
theorem per_gcd_dvd {a : List Nat} {p q : Nat} (hp0 : 0 < p) (hq0 : 0 < q) (hp : p ≤ a.length) (hq : q ≤ a.length) (h1 : perB a p = true) (h2 : perB a q = true) (d1 : p ∣ a.length) (d2 : q ∣ a.length) : perB a (Nat.gcd p q) = true := by
  have big : ∀ p, 0 < p → p ∣ a.length → p ≤ a.length → p = a.length ∨ 2 * p ≤ a.length := fun p h0 ⟨k, hk⟩ hl => by
    rcases k with _ | _ | k
    · omega
    · left
      omega
    · right
      rw [hk, Nat.mul_comm 2 p]
      exact Nat.mul_le_mul_left p (by omega)
  rcases big p hp0 d1 hp with e | e
  · subst e
    rw [Nat.gcd_eq_right d2]
    exact h2
  · rcases big q hq0 d2 hq with f | f
    · subst f
      rw [Nat.gcd_eq_left d1]
      exact h1
    · exact per_gcd hp0 hq0 hp hq h1 h2 (by omega)
theorem rootN_dvd {a : List Nat} {p : Nat} (h0 : 0 < p) (h1 : p ≤ a.length) (h2 : perB a p = true) (h3 : p ∣ a.length) : rootN a ∣ p := by
  have hne : a ≠ [] := fun z => by
    subst z
    simp at h1
    omega
  have hr := rootN_is hne
  have hg := per_gcd_dvd hr.1 h0 hr.2.1 h1 hr.2.2.1 h2 (Nat.dvd_of_mod_eq_zero hr.2.2.2) h3
  have hgp : 0 < Nat.gcd (rootN a) p := Nat.gcd_pos_of_pos_left p hr.1
  have hgd : Nat.gcd (rootN a) p ∣ a.length := Nat.dvd_trans (Nat.gcd_dvd_right _ _) h3
  have hle := rootN_le hgp (Nat.le_trans (Nat.gcd_le_left p hr.1) hr.2.1) hg (Nat.mod_eq_zero_of_dvd hgd)
  have : Nat.gcd (rootN a) p = rootN a := Nat.le_antisymm (Nat.gcd_le_left p hr.1) hle
  rw [← this]
  exact Nat.gcd_dvd_right _ _
/-- the root of a power is the root -/
theorem root_of_pw {r : List Nat} {k : Nat} (hr : r ≠ []) (hk : 0 < k) : rootL (pw r k) = rootL r := by
  have hrl : 0 < r.length := List.length_pos_iff.mpr hr
  have hl := pw_len r k
  have hle : r.length ≤ k * r.length := Nat.le_mul_of_pos_left _ hk
  have hne : pw r k ≠ [] := fun z => by
    rw [z] at hl
    simp at hl
    omega
  have h1 := rootN_is hr
  have h2 := rootN_is hne
  have hroot := root_pw hr
  have hbig : pw r k = pw (rootL r) (expN r * k) := by
    conv => lhs; rw [hroot]
    rw [pw_mul]
  have d1 : rootN (pw r k) ∣ r.length := rootN_dvd hrl (by omega) (per_pow hk) ⟨k, by rw [hl, Nat.mul_comm]⟩
  have hrp : perB r (rootN (pw r k)) = true := by
    have hle2 : rootN (pw r k) ≤ r.length := Nat.le_of_dvd hrl d1
    rw [per_iff hle2]
    intro i hi
    have := (per_iff h2.2.1).mp h2.2.2.1 i (by omega)
    have e : ∀ j, j < r.length → (pw r k)[j]? = r[j]? := fun j hj => by
      have := congrArg (fun l => l[j]?) (take_pw (r := r) hk)
      simp only [List.getElem?_take] at this
      rwa [if_pos hj] at this
    simp only at this
    rw [e i (by omega), e _ hi] at this
    exact this
  have a1 : rootN r ≤ rootN (pw r k) := rootN_le h2.1 (Nat.le_of_dvd hrl d1) hrp (Nat.mod_eq_zero_of_dvd d1)
  have a2 : rootN (pw r k) ≤ rootN r := by
    refine rootN_le h1.1 (by omega) ?_ ?_
    · have := per_pow (r := rootL r) (k := expN r * k) (Nat.mul_pos (exp_pos hr) hk)
      rwa [← hbig, rootL_len hr] at this
    · rw [hl]
      exact Nat.mod_eq_zero_of_dvd (Nat.dvd_trans (Nat.dvd_of_mod_eq_zero h1.2.2.2) ⟨k, by rw [Nat.mul_comm]⟩)
  have e : rootN (pw r k) = rootN r := Nat.le_antisymm a2 a1
  unfold rootL
  rw [e]
  have := congrArg (List.take (rootN r)) (take_pw (r := r) hk)
  rw [List.take_take, Nat.min_eq_left h1.2.1] at this
  exact this
theorem root_root {a : List Nat} (h : a ≠ []) : rootL (rootL a) = rootL a := by
  have := root_of_pw (rootL_ne h) (exp_pos h)
  rw [← root_pw h] at this
  exact this.symm
/-! ### turned words -/
def rot (a : List Nat) (k : Nat) : List Nat := a.drop k ++ a.take k
def Conj (a b : List Nat) : Prop := ∃ u v, a = u ++ v ∧ b = v ++ u
theorem conj_refl (a : List Nat) : Conj a a := ⟨a, [], by simp, by simp⟩
theorem conj_symm {a b : List Nat} (h : Conj a b) : Conj b a := by
  obtain ⟨u, v, h1, h2⟩ := h
  exact ⟨v, u, h2, h1⟩
theorem conj_trans {a b c : List Nat} (h : Conj a b) (h' : Conj b c) : Conj a c := by
  obtain ⟨u, v, rfl, rfl⟩ := h
  obtain ⟨x, y, h1, rfl⟩ := h'
  rcases List.append_eq_append_iff.mp h1 with ⟨t, rfl, rfl⟩ | ⟨t, rfl, rfl⟩
  · exact ⟨t, y ++ v, by simp, by simp⟩
  · exact ⟨u ++ x, t, by simp, by simp⟩
theorem conj_rev {a b : List Nat} (h : Conj a b) : Conj a.reverse b.reverse := by
  obtain ⟨u, v, rfl, rfl⟩ := h
  exact ⟨v.reverse, u.reverse, by simp, by simp⟩
theorem conj_len {a b : List Nat} (h : Conj a b) : a.length = b.length := by
  obtain ⟨u, v, rfl, rfl⟩ := h
  simp
  omega
theorem conj_rot (a : List Nat) (k : Nat) : Conj a (rot a k) := ⟨a.take k, a.drop k, (List.take_append_drop k a).symm, rfl⟩
theorem rot_of {a b : List Nat} (h : Conj a b) : ∃ k, k ≤ a.length ∧ b = rot a k := by
  obtain ⟨u, v, rfl, rfl⟩ := h
  exact ⟨u.length, by simp, by simp [rot]⟩
theorem conj_in {a b : List Nat} : (a.length = b.length ∧ infixB a (b ++ b) = true) ↔ Conj a b := by
  constructor
  · rintro ⟨hl, h⟩
    obtain ⟨x, y, e⟩ := infixB_iff.mp h
    have hlen := congrArg List.length e
    simp only [List.length_append] at hlen
    rw [List.append_assoc] at e
    rcases List.append_eq_append_iff.mp e with ⟨t, e1, e2⟩ | ⟨t, e1, e2⟩
    · have := congrArg List.length e1
      simp only [List.length_append] at this
      have ht : t = [] := List.length_eq_zero_iff.mp (by omega)
      subst ht
      have hy : y = [] := List.length_eq_zero_iff.mp (by simp at this; omega)
      subst hy
      simp at e2
      rw [e2]
      exact conj_refl a
    · have e3 : a = t ++ x := by
        have := congrArg (List.take a.length) e2
        rw [List.take_left' rfl, e1, ← List.append_assoc, List.take_append_of_le_length (by simp; have := congrArg List.length e1; simp at this; omega)] at this
        rw [this, List.take_of_length_le]
        have := congrArg List.length e1
        simp at this ⊢
        omega
      exact ⟨t, x, e3, e1⟩
  · rintro ⟨u, v, rfl, rfl⟩
    refine ⟨by simp; omega, infixB_iff.mpr ⟨v, u, by simp⟩⟩
theorem word_conj {a b : List Nat} (h : wordB a = true) (hc : Conj a b) : wordB b = true := by
  have hl := conj_len hc
  obtain ⟨u, v, rfl, rfl⟩ := hc
  exact wordB_mk (by have := wordB_len h; omega) fun c hc => wordB_let h c (by simp at hc ⊢; exact hc.symm)
theorem conj_ne {a b : List Nat} (h : a ≠ []) (hc : Conj a b) : b ≠ [] := fun z => h (List.length_eq_zero_iff.mp (by rw [conj_len hc, z]; rfl))
/-! rotations by one letter -/
def rot1 : List Nat → List Nat
  | [] => []
  | c :: t => t ++ [c]
theorem pw_rot (t : List Nat) (c : Nat) : ∀ k, pw (t ++ [c]) (k + 1) = t ++ pw (c :: t) k ++ [c]
  | 0 => by simp [pw]
  | k + 1 => by
    rw [pw_succ, pw_rot t c k, pw_succ]
    simp
theorem rot1_pw (r : List Nat) {k : Nat} (hk : 0 < k) : rot1 (pw r k) = pw (rot1 r) k := by
  obtain ⟨k, rfl⟩ : ∃ m, k = m + 1 := ⟨k - 1, by omega⟩
  cases r with
  | nil =>
    have : pw ([] : List Nat) (k + 1) = [] := List.length_eq_zero_iff.mp (by rw [pw_len]; simp)
    rw [this]
    exact this.symm
  | cons c t =>
    rw [pw_succ]
    show t ++ pw (c :: t) k ++ [c] = _
    rw [rot1, pw_rot]
theorem rot_succ {a : List Nat} {k : Nat} (h : k < a.length) : rot a (k + 1) = rot1 (rot a k) := by
  unfold rot
  rw [List.drop_eq_getElem_cons h]
  show _ = a.drop (k + 1) ++ a.take k ++ [a[k]]
  rw [List.append_assoc, List.take_succ_eq_append_getElem h]
theorem conj_rot1 (a : List Nat) : Conj a (rot1 a) := by
  cases a with
  | nil => exact conj_refl []
  | cons c t => exact ⟨[c], t, rfl, rfl⟩
theorem conj_pw {r b : List Nat} {k : Nat} (hk : 0 < k) (h : Conj (pw r k) b) : ∃ s, Conj r s ∧ b = pw s k := by
  obtain ⟨j, hj, rfl⟩ := rot_of h
  clear h
  induction j with
  | zero => exact ⟨r, conj_refl r, by simp [rot]⟩
  | succ j ih =>
    obtain ⟨s, h1, h2⟩ := ih (by omega)
    exact ⟨rot1 s, conj_trans h1 (conj_rot1 s), by rw [rot_succ (by omega), h2, rot1_pw s hk]⟩
theorem pw_rev (r : List Nat) : ∀ k, (pw r k).reverse = pw r.reverse k
  | 0 => rfl
  | k + 1 => by rw [pw_succ, List.reverse_append, pw_rev r k, pw_succ']
theorem word_root {a : List Nat} (h : wordB a = true) : wordB (rootL a) = true := word_take h _
/-! ### two mirrors -/
theorem two_conj {a : List Nat} (h : a ≠ []) : fewN a ≤ 2 ↔ Conj a a.reverse := by
  constructor
  · intro hf
    have hl := best_len a
    have hp := few_pos h
    obtain ⟨h1, h2⟩ := best_mk a
    match hb : bestL a with
    | [] =>
      rw [hb] at hl
      simp at hl
      omega
    | [w] =>
      rw [hb] at h1 h2
      have e : w = a := by simpa using h1
      have := (mirB_iff.mp (h2 w (by simp))).2
      rw [e] at this
      rw [← this]
      exact conj_refl a
    | [u, v] =>
      rw [hb] at h1 h2
      have e : u ++ v = a := by simpa using h1
      have e1 := (mirB_iff.mp (h2 u (by simp))).2
      have e2 := (mirB_iff.mp (h2 v (by simp))).2
      refine ⟨u, v, e.symm, ?_⟩
      rw [← e, List.reverse_append, ← e1, ← e2]
    | _ :: _ :: _ :: _ =>
      rw [hb] at hl
      simp at hl
      omega
  · rintro ⟨u, v, e1, e2⟩
    have e3 : v.reverse ++ u.reverse = v ++ u := by
      rw [← e2, e1, List.reverse_append]
    obtain ⟨e4, e5⟩ := List.append_inj e3 (by simp)
    by_cases hu : u = []
    · have := few_le (a := a) (L := [v]) ⟨by simp [e1, hu], by
        intro w hw
        have : w = v := by simpa using hw
        rw [this, mirB_iff]
        exact ⟨fun z => h (by rw [e1, hu, z]; rfl), e4.symm⟩⟩
      simp at this
      omega
    · by_cases hv : v = []
      · have := few_le (a := a) (L := [u]) ⟨by simp [e1, hv], by
          intro w hw
          have : w = u := by simpa using hw
          rw [this, mirB_iff]
          exact ⟨hu, e5.symm⟩⟩
        simp at this
        omega
      · have := few_le (a := a) (L := [u, v]) ⟨by simp [e1], by
          intro w hw
          have : w = u ∨ w = v := by simpa using hw
          rcases this with q | q
          · rw [q, mirB_iff]
            exact ⟨hu, e5.symm⟩
          · rw [q, mirB_iff]
            exact ⟨hv, e4.symm⟩⟩
        simpa using this
theorem two_turn {a b : List Nat} (ha : a ≠ []) (h : Conj a b) : fewN b ≤ 2 ↔ fewN a ≤ 2 := by
  have hb : b ≠ [] := fun z => ha (List.length_eq_zero_iff.mp (by rw [conj_len h, z]; rfl))
  rw [two_conj ha, two_conj hb]
  constructor
  · intro q
    exact conj_trans h (conj_trans q (conj_symm (conj_rev h)))
  · intro q
    exact conj_trans (conj_symm h) (conj_trans q (conj_rev h))
theorem two_root {a : List Nat} (ha : a ≠ []) (h : fewN a ≤ 2) : fewN (rootL a) ≤ 2 := by
  have hr := rootL_ne ha
  have hc := (two_conj ha).mp h
  rw [two_conj hr]
  have e := root_pw ha
  have hk := exp_pos ha
  generalize expN a = k at e hk
  generalize rootL a = r at e hr
  subst e
  obtain ⟨s, h1, h2⟩ := conj_pw hk hc
  rw [pw_rev] at h2
  have := pw_inj hk (by rw [List.length_reverse, conj_len h1]) h2
  rw [this]
  exact h1
/-- where the two mirrors part -/
theorem two_cut {a : List Nat} (h : a ≠ []) (hf : fewN a ≤ 2) : ∃ k, k < a.length ∧ mirB (a.drop k) = true ∧ (k = 0 ∨ mirB (a.take k) = true) := by
  have hl := best_len a
  have hp := few_pos h
  obtain ⟨h1, h2⟩ := best_mk a
  match hb : bestL a with
  | [] =>
    rw [hb] at hl
    simp at hl
    omega
  | [w] =>
    rw [hb] at h1 h2
    have e : w = a := by simpa using h1
    have := h2 w (by simp)
    rw [e] at this
    exact ⟨0, List.length_pos_iff.mpr h, by simpa using this, .inl rfl⟩
  | [u, v] =>
    rw [hb] at h1 h2
    have e : u ++ v = a := by simpa using h1
    have e1 := h2 u (by simp)
    have e2 := h2 v (by simp)
    have : 0 < v.length := List.length_pos_iff.mpr (mirB_iff.mp e2).1
    refine ⟨u.length, ?_, ?_, .inr ?_⟩
    · rw [← e]
      simp
      omega
    · rw [← e, List.drop_left' rfl]
      exact e2
    · rw [← e, List.take_left' rfl]
      exact e1
  | _ :: _ :: _ :: _ =>
    rw [hb] at hl
    simp at hl
    omega
end RD

/-! All words of a length; words with two periods. -/
namespace RD
open PySem L2
def allW (cs : List Nat) : Nat → List (List Nat)
  | 0 => [[]]
  | n + 1 => (allW cs n).flatMap fun w => cs.map fun c => w ++ [c]
theorem mem_allW {cs : List Nat} : ∀ {n : Nat} {w : List Nat}, w ∈ allW cs n ↔ w.length = n ∧ ∀ c ∈ w, c ∈ cs
  | 0, w => by
    simp only [allW, List.mem_singleton]
    constructor
    · rintro rfl
      simp
    · rintro ⟨h, _⟩
      exact List.length_eq_zero_iff.mp h
  | n + 1, w => by
    simp only [allW, List.mem_flatMap, List.mem_map]
    constructor
    · rintro ⟨v, hv, c, hc, rfl⟩
      obtain ⟨h1, h2⟩ := mem_allW.mp hv
      refine ⟨by simp [h1], fun x hx => ?_⟩
      rcases List.mem_append.mp hx with q | q
      · exact h2 x q
      · have : x = c := by simpa using q
        rw [this]
        exact hc
    · rintro ⟨h1, h2⟩
      have hne : w ≠ [] := fun z => by
        rw [z] at h1
        simp at h1
      refine ⟨w.dropLast, mem_allW.mpr ⟨by simp [h1], fun x hx => h2 x ((List.dropLast_sublist w).subset hx)⟩, w.getLast hne, h2 _ (List.getLast_mem hne), List.dropLast_concat_getLast hne⟩
theorem allW_len (cs : List Nat) : ∀ n, (allW cs n).length = cs.length ^ n
  | 0 => rfl
  | n + 1 => by
    simp only [allW, List.length_flatMap, List.length_map, List.map_const', List.sum_replicate_nat]
    rw [allW_len cs n, Nat.pow_succ]
theorem allW_lens {cs : List Nat} {n : Nat} : ∀ w ∈ allW cs n, w.length = n := fun w h => (mem_allW.mp h).1
abbrev ab : List Nat := [97, 98]
/-- all words of two letters: the first, the last, and those of both letters -/
def midW : Nat → List (List Nat)
  | 0 => []
  | 1 => []
  | n + 2 => (List.replicate (n + 1) 97 ++ [98]) :: ((midW (n + 1)).flatMap fun w => ab.map fun c => w ++ [c]) ++ [List.replicate (n + 1) 98 ++ [97]]
theorem allW_mid : ∀ n, allW ab (n + 1) = List.replicate (n + 1) 97 :: (midW (n + 1) ++ [List.replicate (n + 1) 98])
  | 0 => by simp [allW, midW, ab]
  | n + 1 => by
    have e1 : allW ab (n + 1 + 1) = (allW ab (n + 1)).flatMap fun w => ab.map fun c => w ++ [c] := rfl
    rw [e1, allW_mid n, List.flatMap_cons, List.flatMap_append]
    have r1 : List.replicate (n + 1 + 1) 97 = List.replicate (n + 1) 97 ++ [97] := List.replicate_succ'
    have r2 : List.replicate (n + 1 + 1) 98 = List.replicate (n + 1) 98 ++ [98] := List.replicate_succ'
    rw [r1, r2]
    show _ = _ :: ((List.replicate (n + 1) 97 ++ [98]) :: ((midW (n + 1)).flatMap fun w => ab.map fun c => w ++ [c]) ++ [List.replicate (n + 1) 98 ++ [97]] ++ _)
    simp [ab]
theorem midW_both : ∀ n, ∀ w ∈ midW n, 97 ∈ w ∧ 98 ∈ w
  | 0, w, h => by cases h
  | 1, w, h => by cases h
  | n + 2, w, h => by
    simp only [midW, List.mem_append, List.mem_cons, List.not_mem_nil, or_false] at h
    rcases h with (h | h) | h
    · subst h
      simp
    · obtain ⟨v, hv, h2⟩ := List.mem_flatMap.mp h
      obtain ⟨c, hc, rfl⟩ := List.mem_map.mp h2
      have := midW_both (n + 1) v hv
      simp [this]
    · subst h
      simp
/-- both letters are there -/
def bothB (w : List Nat) : Bool := decide (97 ∈ w) && decide (98 ∈ w)
theorem filter_both {n : Nat} (hn : 0 < n) (p : List Nat → Bool) : (allW ab n).filter (fun w => bothB w && p w) = (midW n).filter p := by
  obtain ⟨n, rfl⟩ : ∃ m, n = m + 1 := ⟨n - 1, by omega⟩
  rw [allW_mid]
  have h1 : bothB (List.replicate (n + 1) 97) = false := by
    unfold bothB
    simp [List.mem_replicate]
  have h2 : bothB (List.replicate (n + 1) 98) = false := by
    unfold bothB
    simp [List.mem_replicate]
  rw [List.filter_cons_of_neg (by simp [h1]), List.filter_append]
  have h3 : (midW (n + 1)).filter (fun w => bothB w && p w) = (midW (n + 1)).filter p := by
    apply List.filter_congr
    intro w hw
    obtain ⟨a1, a2⟩ := midW_both _ w hw
    simp [bothB, a1, a2]
  rw [h3]
  simp [h2]
theorem mid_slice {n : Nat} (hn : 0 < n) : ((allW ab n).take ((allW ab n).length - 1)).drop 1 = midW n := by
  obtain ⟨n, rfl⟩ : ∃ m, n = m + 1 := ⟨n - 1, by omega⟩
  rw [allW_mid]
  simp
/-- the first word of both letters with two periods -/
def withP (p q n : Nat) : Option (List Nat) := (allW ab n).find? fun w => bothB w && (perB w p && perB w q)
theorem with_head {p q n : Nat} (hn : 0 < n) : withP p q n = ((midW n).filter fun w => perB w p && perB w q).head? := by
  unfold withP
  rw [← filter_both hn, List.head?_filter]
theorem per_one {w : List Nat} (h : perB w 1 = true) (hl : 1 ≤ w.length) : bothB w = false := by
  have hp := per_mod ((per_iff hl).mp h)
  have all : ∀ i, i < w.length → w[i]? = w[0]? := fun i hi => by
    have := hp i hi
    simp only [Nat.mod_one] at this
    exact this
  unfold bothB
  rw [Bool.and_eq_false_iff]
  by_cases h1 : 97 ∈ w
  · right
    refine decide_eq_false fun h2 => ?_
    obtain ⟨i, hi, e1⟩ := List.getElem_of_mem h1
    obtain ⟨j, hj, e2⟩ := List.getElem_of_mem h2
    have a1 := all i hi
    have a2 := all j hj
    rw [List.getElem?_eq_getElem hi, e1] at a1
    rw [List.getElem?_eq_getElem hj, e2] at a2
    rw [← a1] at a2
    cases a2
  · left
    exact decide_eq_false h1
def wits : List (Nat × Nat × List Nat) := [(2, 3, [97, 98, 97]), (2, 5, [97, 98, 97, 98, 97]), (2, 7, [97, 98, 97, 98, 97, 98, 97]), (3, 2, [97, 98, 97]), (3, 4, [97, 97, 98, 97, 97]), (3, 5, [97, 98, 97, 97, 98, 97]), (3, 7, [97, 97, 98, 97, 97, 98, 97, 97]), (4, 3, [97, 97, 98, 97, 97]), (4, 5, [97, 97, 97, 98, 97, 97, 97]), (4, 6, [97, 97, 97, 98, 97, 97, 97]), (4, 7, [97, 97, 98, 97, 97, 97, 98, 97, 97]), (5, 2, [97, 98, 97, 98, 97]), (5, 3, [97, 98, 97, 97, 98, 97]), (5, 4, [97, 97, 97, 98, 97, 97, 97]), (5, 6, [97, 97, 97, 97, 98, 97, 97, 97, 97]), (5, 7, [97, 98, 97, 98, 97, 97, 98, 97, 98, 97]), (6, 4, [97, 97, 97, 98, 97, 97, 97]), (6, 5, [97, 97, 97, 97, 98, 97, 97, 97, 97]), (6, 7, [97, 97, 97, 97, 97, 98, 97, 97, 97, 97, 97]), (7, 2, [97, 98, 97, 98, 97, 98, 97]), (7, 3, [97, 97, 98, 97, 97, 98, 97, 97]), (7, 4, [97, 97, 98, 97, 97, 97, 98, 97, 97]), (7, 5, [97, 98, 97, 98, 97, 97, 98, 97, 98, 97]), (7, 6, [97, 97, 97, 97, 97, 98, 97, 97, 97, 97, 97])]
theorem wits_ok : (wits.all fun t => decide (t.2.2.length = t.1 + t.2.1 - Nat.gcd t.1 t.2.1 - 1) && (t.2.2.all fun c => decide (c ∈ ab)) && bothB t.2.2 && perB t.2.2 t.1 && perB t.2.2 t.2.1 && !perB t.2.2 (Nat.gcd t.1 t.2.1)) = true := by decide +kernel
theorem wits_all : ((List.range 8).all fun p => (List.range 8).all fun q => decide (p = 0) || decide (q = 0) || decide (p % q = 0) || decide (q % p = 0) || wits.any fun t => decide (t.1 = p) && decide (t.2.1 = q)) = true := by decide +kernel
/-- a word just below the length where the divisor is forced -/
theorem wit {p q : Nat} (hp0 : 0 < p) (hq0 : 0 < q) (hp : p < 8) (hq : q < 8) (h1 : p % q ≠ 0) (h2 : q % p ≠ 0) : ∃ w, w ∈ midW (p + q - Nat.gcd p q - 1) ∧ perB w p = true ∧ perB w q = true ∧ perB w (Nat.gcd p q) = false := by
  have ha := List.all_eq_true.mp (List.all_eq_true.mp wits_all p (List.mem_range.mpr hp)) q (List.mem_range.mpr hq)
  rw [decide_eq_false (by omega), decide_eq_false (by omega), decide_eq_false h1, decide_eq_false h2] at ha
  simp only [Bool.false_or] at ha
  obtain ⟨⟨p', q', w⟩, ht, e⟩ := List.any_eq_true.mp ha
  simp only [Bool.and_eq_true, decide_eq_true_eq] at e
  obtain ⟨rfl, rfl⟩ := e
  have hk := List.all_eq_true.mp wits_ok _ ht
  simp only [Bool.and_eq_true, decide_eq_true_eq, Bool.not_eq_true', List.all_eq_true] at hk
  obtain ⟨⟨⟨⟨⟨k1, k2⟩, k3⟩, k4⟩, k5⟩, k6⟩ := hk
  have hlen : 0 < w.length := by
    rcases Nat.eq_zero_or_pos w.length with z | z
    · rw [List.length_eq_zero_iff.mp z] at k3
      cases k3
    · exact z
  refine ⟨w, ?_, k4, k5, k6⟩
  have hm : w ∈ (allW ab (p' + q' - Nat.gcd p' q' - 1)).filter (fun w => bothB w && true) := by
    rw [List.mem_filter]
    exact ⟨mem_allW.mpr ⟨k1, k2⟩, by simp [k3]⟩
  rw [filter_both (by omega)] at hm
  exact (List.mem_filter.mp hm).1
end RD

/-! Mirrors among the parts, last mirrors, squares, as the program finds them. -/
namespace RD
open PySem L2
def mirL (a : List Nat) : List (List Nat) := (partsL a).filter mirB
/-- n, n - 1, .., 1 -/
def downL (n : Nat) : List Nat := (List.range n).map fun k => n - k
theorem rngDown_nat (n : Nat) : rngDown (n : Int) 0 = (downL n).map fun k : Nat => PyData.int (k : Int) := by
  unfold rngDown downL
  rw [List.map_map, show ((n : Int) - 0).toNat = n by omega]
  apply List.map_congr_left
  intro k hk
  have := List.mem_range.mp hk
  simp only [Function.comp]
  congr 1
  omega
theorem mem_down {n k : Nat} : k ∈ downL n ↔ 0 < k ∧ k ≤ n := by
  unfold downL
  rw [List.mem_map]
  constructor
  · rintro ⟨j, hj, rfl⟩
    have := List.mem_range.mp hj
    omega
  · rintro ⟨h1, h2⟩
    exact ⟨n - k, List.mem_range.mpr (by omega), by omega⟩
theorem down_len (n : Nat) : (downL n).length = n := by simp [downL]
/-- the lengths of the mirrors that end at e, longest first -/
def lastC (a : List Nat) (e : Nat) : List Nat := (downL e).filter fun s => mirB ((a.take e).drop (e - s))
def lastAt (a : List Nat) (e : Nat) : Nat := (lastC a e).headD 0
def lastM (a : List Nat) : List Nat := (List.range' 1 a.length).map (lastAt a)
theorem lastC_head {a : List Nat} {e : Nat} (h0 : 0 < e) (h1 : e ≤ a.length) : ∃ t, lastC a e = lastAt a e :: t := by
  unfold lastAt
  cases hc : lastC a e with
  | nil =>
    exfalso
    obtain ⟨e, rfl⟩ : ∃ m, e = m + 1 := ⟨e - 1, by omega⟩
    have hs := (mem_starts.mp (last_start (a := a) (e := e) (by omega))).2
    have : 1 ∈ lastC a (e + 1) := by
      unfold lastC
      rw [List.mem_filter, mem_down]
      exact ⟨⟨by omega, by omega⟩, by rw [show e + 1 - 1 = e by omega]; exact hs⟩
    rw [hc] at this
    cases this
  | cons x t => exact ⟨t, rfl⟩
/-! squares -/
abbrev pairE (p : Nat × Nat) : PyData := .tuple [.int (p.1 : Int), .int (p.2 : Int)]
def sqB (a : List Nat) (s h : Nat) : Bool := decide ((a.take (s + h)).drop s = (a.take (s + 2 * h)).drop (s + h))
def sqAt (a : List Nat) (s : Nat) : List (Nat × Nat) := ((List.range' 1 ((a.length - s) / 2)).filter (sqB a s)).map fun h => (s, s + 2 * h)
def sqL (a : List Nat) : List (Nat × Nat) := (List.range a.length).flatMap (sqAt a)
theorem sqAt_len (a : List Nat) (s : Nat) : (sqAt a s).length ≤ a.length := by
  unfold sqAt
  rw [List.length_map]
  have := List.length_filter_le (sqB a s) (List.range' 1 ((a.length - s) / 2))
  rw [List.length_range'] at this
  omega
theorem flat_len {α β : Type} {f : α → List β} {m : Nat} (h : ∀ x, (f x).length ≤ m) : ∀ L : List α, (L.flatMap f).length ≤ L.length * m
  | [] => by simp
  | x :: L => by
    rw [List.flatMap_cons, List.length_append, List.length_cons, Nat.succ_mul]
    have := flat_len h L
    have := h x
    omega
theorem cod_pairE : Cod pairE (fun _ => True) 1 := by
  have := cod_two cod_nat cod_nat
  exact ⟨fun x _ => this.lay x ⟨trivial, trivial⟩, fun x _ => this.dep x ⟨trivial, trivial⟩, this.eqv⟩
theorem shaped_pairs (L : List (Nat × Nat)) : SeqAt.shaped (.list (L.map pairE)) = true := (cod_list cod_pairE).shaped (x := L) (by omega) fun _ _ => trivial
end RD

/-! Runs: by all stretches, and as the program finds them. -/
namespace RD
/-- word[i:j] -/
abbrev cutW (a : List Nat) (i j : Nat) : List Nat := (a.take j).drop i
theorem cutW_len {a : List Nat} {i j : Nat} (hj : j ≤ a.length) : (cutW a i j).length = j - i := by
  simp [cutW]
  omega
theorem cutW_get {a : List Nat} {i j k : Nat} (h : i + k < j) : (cutW a i j)[k]? = a[i + k]? := by
  simp only [cutW, List.getElem?_drop, List.getElem?_take]
  rw [if_pos h]
/-- the least period -/
def minP (a : List Nat) : Nat := (periodsL a).headD 0
theorem minP_is {a : List Nat} (h : a ≠ []) : 0 < minP a ∧ minP a ≤ a.length ∧ perB a (minP a) = true ∧ ∀ q, 0 < q → q ≤ a.length → perB a q = true → minP a ≤ q := by
  have hl : 0 < a.length := List.length_pos_iff.mpr h
  have hm : a.length ∈ periodsL a := mem_periods.mpr ⟨hl, Nat.le_refl _, per_self a⟩
  have hs : (periodsL a).Pairwise (· < ·) := List.Pairwise.filter _ List.pairwise_lt_range'
  unfold minP
  cases hc : periodsL a with
  | nil => rw [hc] at hm; cases hm
  | cons x t =>
    have hx : x ∈ periodsL a := by rw [hc]; exact List.mem_cons_self
    have := mem_periods.mp hx
    refine ⟨this.1, this.2.1, this.2.2, fun q h0 h1 h2 => ?_⟩
    have hq : q ∈ periodsL a := mem_periods.mpr ⟨h0, h1, h2⟩
    rw [hc] at hq hs
    show x ≤ q
    rcases List.mem_cons.mp hq with z | z
    · omega
    · have := (List.pairwise_cons.mp hs).1 q z
      omega
/-- letters of a stretch that are p apart are equal -/
def PerW (a : List Nat) (l h p : Nat) : Prop := ∀ i, l ≤ i → i + p < h → a[i]? = a[i + p]?
theorem perW_iff {a : List Nat} {l h p : Nat} (hh : h ≤ a.length) (hp : l + p ≤ h) : perB (cutW a l h) p = true ↔ PerW a l h p := by
  rw [per_iff (by rw [cutW_len hh]; omega), cutW_len hh]
  constructor
  · intro q i h1 h2
    have := q (i - l) (by omega)
    simp only at this
    rw [cutW_get (by omega), cutW_get (by omega), show l + (i - l) = i by omega, show l + (i - l + p) = i + p by omega] at this
    exact this
  · intro q i hi
    simp only
    rw [cutW_get (by omega), cutW_get (by omega), ← Nat.add_assoc]
    exact q (l + i) (by omega) (by omega)
theorem PerW.sub {a : List Nat} {l h l' h' p : Nat} (q : PerW a l h p) (h1 : l ≤ l') (h2 : h' ≤ h) : PerW a l' h' p := fun i hi hj => q i (by omega) (by omega)
theorem PerW.gcd {a : List Nat} {l h p q : Nat} (hp : 0 < p) (hq : 0 < q) (hn : l + (p + q - Nat.gcd p q) ≤ h) (h1 : PerW a l h p) (h2 : PerW a l h q) : PerW a l h (Nat.gcd p q) := by
  have := fine_wilf (f := fun i => a[l + i]?) _ p q (h - l) rfl hp hq (by omega) (fun i hi => by
    have := h1 (l + i) (by omega) (by omega)
    simpa [Nat.add_assoc] using this) (fun i hi => by
    have := h2 (l + i) (by omega) (by omega)
    simpa [Nat.add_assoc] using this)
  intro i hi hj
  have := this (i - l) (by omega)
  simp only at this
  rwa [show l + (i - l) = i by omega, show l + (i - l + Nat.gcd p q) = i + Nat.gcd p q by omega] at this
/-- a run: its least period, at least twice, and no longer -/
structure IsRun (a : List Nat) (l h p : Nat) : Prop where
  hn : h ≤ a.length
  p0 : 0 < p
  len : l + 2 * p ≤ h
  per : PerW a l h p
  least : ∀ q, 0 < q → q < p → ¬ PerW a l h q
  left : 0 < l → a[l - 1]? ≠ a[l - 1 + p]?
  right : h < a.length → a[h]? ≠ a[h - p]?
theorem minP_iff {a : List Nat} {l h p : Nat} (hh : h ≤ a.length) (hl : l < h) : minP (cutW a l h) = p ↔ (0 < p ∧ l + p ≤ h ∧ PerW a l h p ∧ ∀ q, 0 < q → q < p → ¬ PerW a l h q) := by
  have hlen := cutW_len (i := l) hh
  have hne : cutW a l h ≠ [] := fun z => by
    rw [z] at hlen
    simp at hlen
    omega
  have hm := minP_is hne
  rw [hlen] at hm
  constructor
  · rintro rfl
    refine ⟨hm.1, by omega, (perW_iff hh (by omega)).mp hm.2.2.1, fun q h0 h1 h2 => ?_⟩
    have := hm.2.2.2 q h0 (by omega) ((perW_iff hh (by omega)).mpr h2)
    omega
  · rintro ⟨p0, p1, h1, h2⟩
    have e1 := hm.2.2.2 p p0 (by omega) ((perW_iff hh (by omega)).mpr h1)
    rcases Nat.lt_or_ge (minP (cutW a l h)) p with z | z
    · exact absurd ((perW_iff hh (by omega)).mp hm.2.2.1) (h2 _ hm.1 z)
    · omega
/-- all stretches -/
def piecesL (n : Nat) : List (Nat × Nat) := (List.range n).flatMap fun s => (List.range' (s + 1) (n - s)).map fun e => (s, e)
theorem mem_pieces {n s e : Nat} : (s, e) ∈ piecesL n ↔ s < e ∧ e ≤ n := by
  unfold piecesL
  simp only [List.mem_flatMap, List.mem_range, List.mem_map, List.mem_range'_1]
  constructor
  · rintro ⟨s', h1, e', h2, h3⟩
    injection h3 with h4 h5
    omega
  · intro h
    exact ⟨s, by omega, e, by omega, rfl⟩
def ltP (x y : Nat × Nat) : Prop := x.1 < y.1 ∨ (x.1 = y.1 ∧ x.2 < y.2)
theorem pieces_sorted (n : Nat) : (piecesL n).Pairwise ltP := by
  unfold piecesL
  rw [List.pairwise_flatMap]
  refine ⟨fun s _ => ?_, ?_⟩
  · rw [List.pairwise_map]
    exact List.Pairwise.imp (fun h => Or.inr ⟨rfl, h⟩) List.pairwise_lt_range'
  · refine List.Pairwise.imp (fun {s t} h x hx y hy => ?_) (List.pairwise_lt_range)
    obtain ⟨_, _, rfl⟩ := List.mem_map.mp hx
    obtain ⟨_, _, rfl⟩ := List.mem_map.mp hy
    exact Or.inl h
/-- is this stretch a run -/
def runB (a : List Nat) (x : Nat × Nat) : Bool :=
  decide (2 * minP (cutW a x.1 x.2) ≤ x.2 - x.1) && (!(decide (0 < x.1) && perB (cutW a (x.1 - 1) x.2) (minP (cutW a x.1 x.2))) && !(decide (x.2 < a.length) && perB (cutW a x.1 (x.2 + 1)) (minP (cutW a x.1 x.2))))
def tripOf (a : List Nat) (x : Nat × Nat) : Nat × Nat × Nat := (x.1, x.2, minP (cutW a x.1 x.2))
def runsL (a : List Nat) : List (Nat × Nat × Nat) := ((piecesL a.length).filter (runB a)).map (tripOf a)
theorem runB_iff {a : List Nat} {l h : Nat} (hl : l < h) (hh : h ≤ a.length) : runB a (l, h) = true ↔ IsRun a l h (minP (cutW a l h)) := by
  obtain ⟨m0, m1, m2, m3⟩ := (minP_iff hh hl).mp (rfl : minP (cutW a l h) = _)
  generalize hm : minP (cutW a l h) = p at m0 m1 m2 m3
  unfold runB
  simp only [hm, Bool.and_eq_true, decide_eq_true_eq, Bool.not_eq_true', Bool.and_eq_false_iff, decide_eq_false_iff_not]
  constructor
  · rintro ⟨h1, h2, h3⟩
    refine ⟨hh, m0, by omega, m2, m3, fun z q => ?_, fun z q => ?_⟩
    · rcases h2 with h2 | h2
      · omega
      · rw [Bool.eq_false_iff] at h2
        refine h2 ((perW_iff hh (by omega)).mpr fun i h4 h5 => ?_)
        by_cases e : i = l - 1
        · rw [e]
          exact q
        · exact m2 i (by omega) h5
    · rcases h3 with h3 | h3
      · omega
      · rw [Bool.eq_false_iff] at h3
        refine h3 ((perW_iff z (by omega)).mpr fun i h4 h5 => ?_)
        by_cases e : i + p = h
        · rw [e, q]
          congr 1
          omega
        · exact m2 i h4 (by omega)
  · intro r
    refine ⟨by have := r.len; omega, ?_, ?_⟩
    · by_cases z : 0 < l
      · right
        rw [Bool.eq_false_iff]
        intro q
        exact r.left z ((perW_iff hh (by omega)).mp q (l - 1) (by omega) (by omega))
      · left
        exact z
    · by_cases z : h < a.length
      · right
        rw [Bool.eq_false_iff]
        intro q
        have := (perW_iff z (by omega)).mp q (h - p) (by omega) (by omega)
        rw [show h - p + p = h by omega] at this
        exact r.right z this.symm
      · left
        exact z
theorem IsRun.lt {a : List Nat} {l h p : Nat} (r : IsRun a l h p) : l < h := by
  have := r.len
  have := r.p0
  omega
theorem IsRun.min {a : List Nat} {l h p : Nat} (r : IsRun a l h p) : minP (cutW a l h) = p := (minP_iff r.hn r.lt).mpr ⟨r.p0, by have := r.len; omega, r.per, r.least⟩
theorem mem_runs {a : List Nat} {l h p : Nat} : (l, h, p) ∈ runsL a ↔ IsRun a l h p := by
  unfold runsL
  rw [List.mem_map]
  constructor
  · rintro ⟨⟨s, e⟩, h1, h2⟩
    obtain ⟨h3, h4⟩ := List.mem_filter.mp h1
    obtain ⟨h5, h6⟩ := mem_pieces.mp h3
    unfold tripOf at h2
    injection h2 with e1 e2
    injection e2 with e2 e3
    simp only at e1 e2 e3
    subst e1 e2 e3
    exact (runB_iff h5 h6).mp h4
  · intro r
    refine ⟨(l, h), List.mem_filter.mpr ⟨mem_pieces.mpr ⟨r.lt, r.hn⟩, (runB_iff r.lt r.hn).mpr ?_⟩, ?_⟩
    · rw [r.min]
      exact r
    · unfold tripOf
      rw [r.min]
def ltT (x y : Nat × Nat × Nat) : Prop := x.1 < y.1 ∨ (x.1 = y.1 ∧ x.2.1 < y.2.1)
theorem runs_sorted (a : List Nat) : (runsL a).Pairwise ltT := by
  unfold runsL
  rw [List.pairwise_map]
  exact List.Pairwise.imp (fun h => h) ((pieces_sorted a.length).filter _)
theorem runs_nodup (a : List Nat) : (runsL a).Nodup := (runs_sorted a).imp fun {x y} h z => by
  subst z
  rcases h with h | h
  · omega
  · omega
/-- two lists in one order with the same things are one -/
theorem sorted_ext {α : Type} {R : α → α → Prop} (irr : ∀ x, ¬ R x x) (asy : ∀ x y, R x y → ¬ R y x) : ∀ {L M : List α}, L.Pairwise R → M.Pairwise R → (∀ x, x ∈ L ↔ x ∈ M) → L = M
  | [], [], _, _, _ => rfl
  | [], y :: M, _, _, h => absurd ((h y).mpr List.mem_cons_self) (by simp)
  | x :: L, [], _, _, h => absurd ((h x).mp List.mem_cons_self) (by simp)
  | x :: L, y :: M, hL, hM, h => by
    have hL' := List.pairwise_cons.mp hL
    have hM' := List.pairwise_cons.mp hM
    have e : x = y := by
      rcases List.mem_cons.mp ((h x).mp List.mem_cons_self) with z | z
      · exact z
      · rcases List.mem_cons.mp ((h y).mpr List.mem_cons_self) with w | w
        · exact w.symm
        · exact absurd (hL'.1 y w) (asy _ _ (hM'.1 x z))
    subst e
    congr 1
    refine sorted_ext irr asy hL'.2 hM'.2 fun z => ⟨fun hz => ?_, fun hz => ?_⟩
    · rcases List.mem_cons.mp ((h z).mp (List.mem_cons_of_mem _ hz)) with w | w
      · subst w
        exact absurd (hL'.1 z hz) (irr z)
      · exact w
    · rcases List.mem_cons.mp ((h z).mpr (List.mem_cons_of_mem _ hz)) with w | w
      · subst w
        exact absurd (hM'.1 z hz) (irr z)
      · exact w
/-! ### as the program finds them -/
/-- to the left, as far as letters p apart are equal -/
def extL (a : List Nat) (p : Nat) : Nat → Nat
  | 0 => 0
  | l + 1 => if a[l]? = a[l + p]? then extL a p l else l + 1
/-- to the right, m places at most -/
def extR (a : List Nat) (p : Nat) : Nat → Nat → Nat
  | 0, h => h
  | m + 1, h => if a[h]? = a[h - p]? then extR a p m (h + 1) else h
theorem extL_is (a : List Nat) (p : Nat) : ∀ l, extL a p l ≤ l ∧ (∀ i, extL a p l ≤ i → i < l → a[i]? = a[i + p]?) ∧ (0 < extL a p l → a[extL a p l - 1]? ≠ a[extL a p l - 1 + p]?)
  | 0 => ⟨Nat.le_refl _, fun i h1 h2 => by omega, fun h => by simp [extL] at h⟩
  | l + 1 => by
    obtain ⟨h1, h2, h3⟩ := extL_is a p l
    unfold extL
    by_cases e : a[l]? = a[l + p]?
    · rw [if_pos e]
      refine ⟨by omega, fun i h4 h5 => ?_, h3⟩
      by_cases q : i = l
      · rw [q]; exact e
      · exact h2 i h4 (by omega)
    · rw [if_neg e]
      exact ⟨Nat.le_refl _, fun i h4 h5 => by omega, fun _ => e⟩
theorem extR_is (a : List Nat) (p : Nat) : ∀ m h, h + m = a.length → h ≤ extR a p m h ∧ extR a p m h ≤ a.length ∧ (∀ i, h ≤ i → i < extR a p m h → a[i]? = a[i - p]?) ∧ (extR a p m h < a.length → a[extR a p m h]? ≠ a[extR a p m h - p]?)
  | 0, h, e => ⟨Nat.le_refl _, by simp [extR]; omega, fun i h1 h2 => by simp [extR] at h2; omega, fun z => by simp [extR] at z; omega⟩
  | m + 1, h, e => by
    obtain ⟨h1, h2, h3, h4⟩ := extR_is a p m (h + 1) (by omega)
    unfold extR
    by_cases q : a[h]? = a[h - p]?
    · rw [if_pos q]
      refine ⟨by omega, h2, fun i h5 h6 => ?_, h4⟩
      by_cases z : i = h
      · rw [z]; exact q
      · exact h3 i (by omega) h6
    · rw [if_neg q]
      exact ⟨Nat.le_refl _, by omega, fun i h5 h6 => by omega, fun _ => q⟩
theorem sq_iff {a : List Nat} {s h : Nat} (hn : s + 2 * h ≤ a.length) : sqB a s h = true ↔ PerW a s (s + 2 * h) h := by
  unfold sqB
  rw [decide_eq_true_eq]
  constructor
  · intro e i h1 h2
    have := congrArg (fun l => l[i - s]?) e
    rw [cutW_get (a := a) (i := s) (j := s + h) (by omega), cutW_get (a := a) (i := s + h) (j := s + 2 * h) (by omega)] at this
    rw [show s + (i - s) = i by omega, show s + h + (i - s) = i + h by omega] at this
    exact this
  · intro q
    apply List.ext_getElem?
    intro k
    by_cases hk : k < h
    · rw [cutW_get (a := a) (i := s) (j := s + h) (by omega), cutW_get (a := a) (i := s + h) (j := s + 2 * h) (by omega)]
      rw [q (s + k) (by omega) (by omega)]
      congr 1
      omega
    · rw [List.getElem?_eq_none (by simp; omega), List.getElem?_eq_none (by simp; omega)]
theorem mem_sq {a : List Nat} {s e : Nat} : (s, e) ∈ sqL a ↔ ∃ h, 0 < h ∧ e = s + 2 * h ∧ e ≤ a.length ∧ PerW a s e h := by
  unfold sqL sqAt
  simp only [List.mem_flatMap, List.mem_range, List.mem_map, List.mem_filter, List.mem_range'_1]
  constructor
  · rintro ⟨s', h1, h, ⟨h2, h3⟩, h4⟩
    injection h4 with e1 e2
    subst e1 e2
    have : s' + 2 * h ≤ a.length := by omega
    exact ⟨h, by omega, rfl, this, (sq_iff this).mp h3⟩
  · rintro ⟨h, h0, rfl, h2, h3⟩
    exact ⟨s, by omega, h, ⟨by omega, (sq_iff h2).mpr h3⟩, rfl⟩
/-- the run that the program makes of a square -/
def growRun (a : List Nat) (x : Nat × Nat) : Nat × Nat × Nat := (extL a ((x.2 - x.1) / 2) x.1, extR a ((x.2 - x.1) / 2) (a.length - x.2) x.2, (x.2 - x.1) / 2)
theorem grow_per {a : List Nat} {s h : Nat} (h0 : 0 < h) (hn : s + 2 * h ≤ a.length) (q : PerW a s (s + 2 * h) h) : PerW a (extL a h s) (extR a h (a.length - (s + 2 * h)) (s + 2 * h)) h := by
  obtain ⟨l1, l2, _⟩ := extL_is a h s
  obtain ⟨r1, r2, r3, _⟩ := extR_is a h (a.length - (s + 2 * h)) (s + 2 * h) (by omega)
  intro i h1 h2
  by_cases z : i < s
  · exact l2 i h1 z
  · by_cases y : i + h < s + 2 * h
    · exact q i (by omega) y
    · have := r3 (i + h) (by omega) h2
      rw [this]
      congr 1
      omega
def keepRun (a : List Nat) (t : Nat × Nat × Nat) : Bool := decide (minP (cutW a t.1 t.2.1) = t.2.2)
theorem grown {a : List Nat} {t : Nat × Nat × Nat} : (∃ x ∈ sqL a, growRun a x = t ∧ keepRun a t = true) ↔ t ∈ runsL a := by
  obtain ⟨l, hh, p⟩ := t
  rw [mem_runs]
  constructor
  · rintro ⟨⟨s, e⟩, hx, h1, h2⟩
    obtain ⟨h, h0, rfl, hn, q⟩ := mem_sq.mp hx
    have eh : (s + 2 * h - s) / 2 = h := by omega
    unfold growRun at h1
    simp only [eh] at h1
    injection h1 with e1 e2
    injection e2 with e2 e3
    subst e3
    obtain ⟨l1, l2, l3⟩ := extL_is a h s
    obtain ⟨r1, r2, r3, r4⟩ := extR_is a h (a.length - (s + 2 * h)) (s + 2 * h) (by omega)
    have gp := grow_per h0 hn q
    rw [e1] at l1 l2 l3 gp
    rw [e2] at r1 r2 r3 r4 gp
    have hk := of_decide_eq_true h2
    simp only at hk
    obtain ⟨m0, m1, m2, m3⟩ := (minP_iff r2 (by omega)).mp hk
    exact ⟨r2, h0, by omega, gp, m3, l3, r4⟩
  · intro r
    have hr := r.len
    have hp0 := r.p0
    have hn := r.hn
    have q : PerW a l (l + 2 * p) p := r.per.sub (Nat.le_refl _) (by omega)
    refine ⟨(l, l + 2 * p), mem_sq.mpr ⟨p, r.p0, rfl, by omega, q⟩, ?_, decide_eq_true r.min⟩
    unfold growRun
    have eh : (l + 2 * p - l) / 2 = p := by omega
    simp only [eh]
    obtain ⟨l1, l2, l3⟩ := extL_is a p l
    obtain ⟨r1, r2, r3, r4⟩ := extR_is a p (a.length - (l + 2 * p)) (l + 2 * p) (by omega)
    have e1 : extL a p l = l := by
      rcases Nat.lt_or_ge (extL a p l) l with z | z
      · exact absurd (l2 (l - 1) (by omega) (by omega)) (r.left (by omega))
      · omega
    have e2 : extR a p (a.length - (l + 2 * p)) (l + 2 * p) = hh := by
      generalize extR a p (a.length - (l + 2 * p)) (l + 2 * p) = x at r1 r2 r3 r4
      rcases Nat.lt_trichotomy x hh with z | z | z
      · refine absurd ?_ (r4 (by omega))
        have := r.per (x - p) (by omega) (by omega)
        rw [show x - p + p = x by omega] at this
        exact this.symm
      · exact z
      · exact absurd (r3 hh (by omega) z) (r.right (by omega))
    rw [e1, e2]
/-! ### every square in a run -/
theorem square_in_run {a : List Nat} {s h : Nat} (h0 : 0 < h) (hn : s + 2 * h ≤ a.length) (q : PerW a s (s + 2 * h) h) : ∃ l e p, IsRun a l e p ∧ l ≤ s ∧ s + 2 * h ≤ e ∧ h % p = 0 := by
  obtain ⟨m0, m1, m2, m3⟩ := (minP_iff hn (by omega)).mp (rfl : minP (cutW a s (s + 2 * h)) = _)
  generalize minP (cutW a s (s + 2 * h)) = r at m0 m1 m2 m3
  have hrh : r ≤ h := by
    rcases Nat.lt_or_ge h r with z | z
    · exact absurd q (m3 h h0 z)
    · exact z
  have g := PerW.gcd m0 h0 (by have := Nat.gcd_pos_of_pos_left h m0; omega) m2 q
  have gp : 0 < Nat.gcd r h := Nat.gcd_pos_of_pos_left h m0
  have gl : Nat.gcd r h ≤ r := Nat.gcd_le_left h m0
  have ge : Nat.gcd r h = r := by
    rcases Nat.lt_or_ge (Nat.gcd r h) r with z | z
    · exact absurd g (m3 _ gp z)
    · omega
  have hd : r ∣ h := by
    rw [← ge]
    exact Nat.gcd_dvd_right r h
  have gr : PerW a (extL a r s) (extR a r (a.length - (s + 2 * h)) (s + 2 * h)) r := by
    obtain ⟨l1, l2, _⟩ := extL_is a r s
    obtain ⟨r1, r2, r3, _⟩ := extR_is a r (a.length - (s + 2 * h)) (s + 2 * h) (by omega)
    intro i h1 h2
    by_cases z : i < s
    · exact l2 i h1 z
    · by_cases y : i + r < s + 2 * h
      · exact m2 i (by omega) y
      · have := r3 (i + r) (by omega) h2
        rw [this]
        congr 1
        omega
  obtain ⟨l1, l2, l3⟩ := extL_is a r s
  obtain ⟨r1, r2, r3, r4⟩ := extR_is a r (a.length - (s + 2 * h)) (s + 2 * h) (by omega)
  refine ⟨_, _, r, ⟨r2, m0, by omega, gr, fun q q0 q1 q2 => m3 q q0 q1 (q2.sub l1 r1), l3, r4⟩, l1, r1, Nat.mod_eq_zero_of_dvd hd⟩
/-! ### backwards -/
theorem perW_rev {a : List Nat} {l h p : Nat} (hh : h ≤ a.length) (r : PerW a l h p) : PerW a.reverse (a.length - h) (a.length - l) p := by
  intro i h1 h2
  rw [List.getElem?_reverse (by omega), List.getElem?_reverse (by omega)]
  have := r (a.length - 1 - (i + p)) (by omega) (by omega)
  rw [show a.length - 1 - (i + p) + p = a.length - 1 - i by omega] at this
  exact this.symm
theorem run_rev {a : List Nat} {l h p : Nat} (r : IsRun a l h p) : IsRun a.reverse (a.length - h) (a.length - l) p := by
  have hn := r.hn
  have hl := r.len
  have p0 := r.p0
  have rl : a.reverse.length = a.length := List.length_reverse
  refine ⟨by omega, r.p0, by omega, perW_rev hn r.per, fun q q0 q1 q2 => ?_, fun z => ?_, fun z => ?_⟩
  · have := perW_rev (a := a.reverse) (by omega) q2
    rw [List.reverse_reverse, rl, show a.length - (a.length - l) = l by omega, show a.length - (a.length - h) = h by omega] at this
    exact r.least q q0 q1 this
  · rw [List.getElem?_reverse (by omega), List.getElem?_reverse (by omega)]
    have := r.right (by omega)
    rw [show a.length - 1 - (a.length - h - 1) = h by omega, show a.length - 1 - (a.length - h - 1 + p) = h - p by omega]
    exact this
  · rw [rl] at z
    rw [List.getElem?_reverse (by omega), List.getElem?_reverse (by omega)]
    have := r.left (by omega)
    rw [show a.length - 1 - (a.length - l) = l - 1 by omega, show a.length - 1 - (a.length - l - p) = l - 1 + p by omega]
    exact this
/-! ### less runs than letters -/
theorem run_gap {a : List Nat} {l h l' h' p : Nat} (r : IsRun a l h p) (r' : IsRun a l' h' p) (hl : l < l') : l + p + 1 ≤ l' := by
  rcases Nat.lt_or_ge l' (l + p + 1) with z | z
  · have h1 := r.len
    have := r.per (l' - 1) (by omega) (by omega)
    exact absurd this (r'.left (by omega))
  · exact z
theorem run_one {a : List Nat} {l h h' p : Nat} (r : IsRun a l h p) (r' : IsRun a l h' p) : h = h' := by
  have key : ∀ {h h' : Nat}, IsRun a l h p → IsRun a l h' p → ¬ h < h' := fun {h h'} r r' z => by
    have h1 := r.len
    have h2 := r'.hn
    have := r'.per (h - p) (by omega) (by omega)
    rw [show h - p + p = h by omega] at this
    exact r.right (by omega) this.symm
  have h1 := key r r'
  have h2 := key r' r
  omega
/-- the beginnings of the runs with a period -/
def begs (a : List Nat) (p : Nat) : List Nat := ((runsL a).filter fun t => decide (t.2.2 = p)).map (·.1)
theorem mem_begs {a : List Nat} {p l : Nat} : l ∈ begs a p ↔ ∃ h, IsRun a l h p := by
  unfold begs
  rw [List.mem_map]
  constructor
  · rintro ⟨⟨l', h, p'⟩, h1, h2⟩
    obtain ⟨h3, h4⟩ := List.mem_filter.mp h1
    have h4 := of_decide_eq_true h4
    simp only at h2 h4
    subst h2 h4
    exact ⟨h, mem_runs.mp h3⟩
  · rintro ⟨h, r⟩
    exact ⟨(l, h, p), List.mem_filter.mpr ⟨mem_runs.mpr r, decide_eq_true rfl⟩, rfl⟩
theorem begs_gap (a : List Nat) (p : Nat) : (begs a p).Pairwise fun x y => x + p + 1 ≤ y := by
  unfold begs
  rw [List.pairwise_map]
  have h1 := (runs_sorted a).filter fun t => decide (t.2.2 = p)
  refine List.Pairwise.imp_of_mem (fun {x y} hx hy h => ?_) h1
  obtain ⟨hx1, hx2⟩ := List.mem_filter.mp hx
  obtain ⟨hy1, hy2⟩ := List.mem_filter.mp hy
  obtain ⟨l, e, p1⟩ := x
  obtain ⟨l', e', p2⟩ := y
  have hx2 := of_decide_eq_true hx2
  have hy2 := of_decide_eq_true hy2
  simp only at hx2 hy2
  subst hx2 hy2
  have r := mem_runs.mp hx1
  have r' := mem_runs.mp hy1
  rcases h with h | ⟨h, h'⟩
  · exact run_gap r r' h
  · simp only at h h'
    subst h
    have := run_one r r'
    omega
theorem chain_len {d m : Nat} : ∀ {L : List Nat}, L.Pairwise (fun x y => x + d ≤ y) → (∀ x ∈ L, x ≤ m) → ∀ x, L.head? = some x → x + (L.length - 1) * d ≤ m
  | [], _, _, x, h => by cases h
  | [y], _, hm, x, h => by
    have : y = x := by simpa using h
    subst this
    simpa using hm y List.mem_cons_self
  | y :: z :: L, hp, hm, x, h => by
    have : y = x := by simpa using h
    subst this
    have hp' := List.pairwise_cons.mp hp
    have ih := chain_len hp'.2 (fun w hw => hm w (List.mem_cons_of_mem _ hw)) z rfl
    have h1 := hp'.1 z List.mem_cons_self
    simp only [List.length_cons, Nat.add_sub_cancel, Nat.succ_mul] at ih ⊢
    omega
theorem begs_len {a : List Nat} {p : Nat} (hp : 0 < p) : (begs a p).length = 0 ∨ (2 * p ≤ a.length ∧ ((begs a p).length - 1) * (p + 1) ≤ a.length - 2 * p) := by
  have hb : ∀ x ∈ begs a p, x + 2 * p ≤ a.length := fun x hx => by
    obtain ⟨h, r⟩ := mem_begs.mp hx
    have := r.len
    have := r.hn
    omega
  cases hc : begs a p with
  | nil => left; rfl
  | cons x L =>
    right
    have hx := hb x (by rw [hc]; exact List.mem_cons_self)
    refine ⟨by omega, ?_⟩
    have := chain_len (d := p + 1) (m := a.length - 2 * p) (L := x :: L) (by
      rw [← hc]
      exact (begs_gap a p).imp fun h => by omega) (fun y hy => by
      have := hb y (by rw [hc]; exact hy)
      omega) x rfl
    omega
theorem subset_len {α : Type} [DecidableEq α] : ∀ {L M : List α}, L.Nodup → (∀ x ∈ L, x ∈ M) → L.length ≤ M.length
  | [], _, _, _ => Nat.zero_le _
  | x :: L, M, hn, h => by
    obtain ⟨h1, h2⟩ := List.nodup_cons.mp hn
    have hx := h x List.mem_cons_self
    have := subset_len (L := L) (M := M.erase x) h2 fun y hy => (List.mem_erase_of_ne (fun z => h1 (by rw [← z]; exact hy))).mpr (h y (List.mem_cons_of_mem _ hy))
    have hl := List.length_erase_of_mem hx
    have : 0 < M.length := List.length_pos_of_mem hx
    simp only [List.length_cons]
    omega
/-- places where two neighbours are equal, or not -/
def eqs (a : List Nat) : List Nat := (List.range (a.length - 1)).filter fun i => decide (a[i]? = a[i + 1]?)
def uns (a : List Nat) : List Nat := (List.range (a.length - 1)).filter fun i => decide (a[i]? ≠ a[i + 1]?)
theorem eqs_uns (a : List Nat) : (eqs a).length + (uns a).length = a.length - 1 := by
  have : ∀ L : List Nat, (L.filter fun i => decide (a[i]? = a[i + 1]?)).length + (L.filter fun i => decide (a[i]? ≠ a[i + 1]?)).length = L.length := fun L => by
    induction L with
    | nil => rfl
    | cons x L ih =>
      by_cases h : a[x]? = a[x + 1]?
      · rw [List.filter_cons_of_pos (by simpa using h), List.filter_cons_of_neg (by simpa using h)]
        simp only [List.length_cons]
        omega
      · rw [List.filter_cons_of_neg (by simpa using h), List.filter_cons_of_pos (by simpa using h)]
        simp only [List.length_cons]
        omega
  have := this (List.range (a.length - 1))
  rw [List.length_range] at this
  exact this
theorem begs_nodup (a : List Nat) (p : Nat) : (begs a p).Nodup := (begs_gap a p).imp fun h z => by omega
theorem count1 (a : List Nat) : (begs a 1).length ≤ (eqs a).length := subset_len (begs_nodup a 1) fun l hl => by
  obtain ⟨h, r⟩ := mem_begs.mp hl
  have h1 := r.len
  have h2 := r.hn
  exact List.mem_filter.mpr ⟨List.mem_range.mpr (by omega), decide_eq_true (r.per l (Nat.le_refl _) (by omega))⟩
theorem count1' (a : List Nat) : (begs a 1).length ≤ (uns a).length + 1 := by
  have hg := begs_gap a 1
  have hs : ∀ x ∈ begs a 1, 0 < x → x - 1 ∈ uns a := fun l hl hp => by
    obtain ⟨h, r⟩ := mem_begs.mp hl
    have h1 := r.len
    have h2 := r.hn
    refine List.mem_filter.mpr ⟨List.mem_range.mpr (by omega), decide_eq_true ?_⟩
    exact r.left hp
  cases hc : begs a 1 with
  | nil => simp
  | cons x L =>
    rw [hc] at hg hs
    have hg' := List.pairwise_cons.mp hg
    have : (L.map fun y => y - 1).length ≤ (uns a).length := by
      refine subset_len ?_ fun z hz => ?_
      · show List.Pairwise _ _
        rw [List.pairwise_map]
        refine hg'.2.imp_of_mem fun {u v} hu hv h => ?_
        have := hg'.1 u hu
        omega
      · obtain ⟨y, hy, rfl⟩ := List.mem_map.mp hz
        exact hs y (List.mem_cons_of_mem _ hy) (by have := hg'.1 y hy; omega)
    rw [List.length_map] at this
    simp only [List.length_cons]
    omega
theorem flat3_len : ∀ L : List Nat, (L.flatMap fun l => [l, l + 1, l + 2]).length = 3 * L.length
  | [] => rfl
  | x :: L => by
    rw [List.flatMap_cons, List.length_append, flat3_len L]
    simp only [List.length_cons, List.length_nil]
    omega
theorem count2 (a : List Nat) : 3 * (begs a 2).length ≤ (uns a).length := by
  rw [← flat3_len]
  refine subset_len ?_ fun x hx => ?_
  · show List.Pairwise _ _
    rw [List.pairwise_flatMap]
    refine ⟨fun l _ => by simp, (begs_gap a 2).imp fun {u v} h x hx y hy => ?_⟩
    simp at hx hy
    omega
  · obtain ⟨l, hl, hx⟩ := List.mem_flatMap.mp hx
    obtain ⟨h, r⟩ := mem_begs.mp hl
    have h1 := r.len
    have h2 := r.hn
    have hne : a[l]? ≠ a[l + 1]? := fun z => by
      refine r.least 1 (by omega) (by omega) fun i hi hj => ?_
      have key : ∀ k, l + k + 1 < h → a[l + k]? = a[l + k + 1]? := fun k => by
        induction k with
        | zero => intro _; exact z
        | succ k ih =>
          intro hk
          have e1 := ih (by omega)
          have e2 := r.per (l + k) (by omega) (by omega)
          rw [show l + (k + 1) = l + k + 1 by omega, ← e1, e2]
      have := key (i - l) (by omega)
      rwa [show l + (i - l) = i by omega] at this
    have p0 := r.per l (Nat.le_refl _) (by omega)
    have p1 := r.per (l + 1) (by omega) (by omega)
    simp at hx
    rcases hx with rfl | rfl | rfl
    · exact List.mem_filter.mpr ⟨List.mem_range.mpr (by omega), decide_eq_true hne⟩
    · refine List.mem_filter.mpr ⟨List.mem_range.mpr (by omega), decide_eq_true fun z => ?_⟩
      rw [show l + 1 + 1 = l + 2 by omega, ← p0] at z
      exact hne z.symm
    · refine List.mem_filter.mpr ⟨List.mem_range.mpr (by omega), decide_eq_true fun z => ?_⟩
      rw [show l + 2 + 1 = l + 1 + 2 by omega, ← p0, ← p1] at z
      exact hne z
/-- a run of the whole word, and another one -/
theorem run_whole {a : List Nat} {l h p q : Nat} (r : IsRun a l h p) (hw : PerW a 0 a.length q) (hq : p < q) (h1 : q ≤ p + Nat.gcd p q) (h2 : Nat.gcd p q < p) : False := by
  have hl := r.len
  have p0 := r.p0
  have g := PerW.gcd (a := a) (l := l) (h := h) p0 (by omega) (by omega) r.per (hw.sub (Nat.zero_le _) r.hn)
  exact r.least _ (Nat.gcd_pos_of_pos_left q p0) h2 g
theorem whole_of {a : List Nat} {q : Nat} (hn : a.length = 2 * q) (h : 0 < (begs a q).length) : PerW a 0 a.length q := by
  obtain ⟨l, hl⟩ := List.exists_mem_of_length_pos h
  obtain ⟨e, r⟩ := mem_begs.mp hl
  have h1 := r.len
  have h2 := r.hn
  have e1 : l = 0 := by omega
  have e2 : e = a.length := by omega
  subst e1 e2
  exact r.per
theorem runs_sum {a : List Nat} (ha : a.length ≤ 12) : (runsL a).length = (begs a 1).length + (begs a 2).length + (begs a 3).length + (begs a 4).length + (begs a 5).length + (begs a 6).length := by
  have hp : ∀ t ∈ runsL a, 0 < t.2.2 ∧ t.2.2 ≤ 6 := fun ⟨l, h, p⟩ ht => by
    have r := mem_runs.mp ht
    have := r.len
    have := r.hn
    have := r.p0
    exact ⟨r.p0, by show p ≤ 6; omega⟩
  have key : ∀ L : List (Nat × Nat × Nat), (∀ t ∈ L, 0 < t.2.2 ∧ t.2.2 ≤ 6) → L.length = (L.filter fun t => decide (t.2.2 = 1)).length + (L.filter fun t => decide (t.2.2 = 2)).length + (L.filter fun t => decide (t.2.2 = 3)).length + (L.filter fun t => decide (t.2.2 = 4)).length + (L.filter fun t => decide (t.2.2 = 5)).length + (L.filter fun t => decide (t.2.2 = 6)).length := fun L => by
    induction L with
    | nil => intro _; rfl
    | cons t L ih =>
      intro h
      have ih := ih fun x hx => h x (List.mem_cons_of_mem _ hx)
      have ht := h t List.mem_cons_self
      have : t.2.2 = 1 ∨ t.2.2 = 2 ∨ t.2.2 = 3 ∨ t.2.2 = 4 ∨ t.2.2 = 5 ∨ t.2.2 = 6 := by omega
      rcases this with e | e | e | e | e | e <;> simp [List.filter_cons, e] <;> omega
  have := key _ hp
  simpa [begs] using this
theorem few_two {n n1 n2 x y : Nat} (h0 : 0 < n) (c1 : n1 ≤ x) (c1' : n1 ≤ y + 1) (c2 : 3 * n2 ≤ y) (eu : x + y = n - 1) : 3 * (n1 + n2) + 1 ≤ 2 * n := by omega
theorem few_two' {n1 n2 x y : Nat} (c1 : n1 ≤ x) (c1' : n1 ≤ y + 1) (c2 : 3 * n2 ≤ y) (eu : x + y = 11 - 1) : n1 + n2 ≤ 6 := by omega
theorem few_top {n n3 n4 n5 n6 : Nat} (b3 : n3 = 0 ∨ (6 ≤ n ∧ (n3 - 1) * 4 ≤ n - 6)) (b4 : n4 = 0 ∨ (8 ≤ n ∧ (n4 - 1) * 5 ≤ n - 8)) (b5 : n5 = 0 ∨ (10 ≤ n ∧ (n5 - 1) * 6 ≤ n - 10)) (b6 : n6 = 0 ∨ (12 ≤ n ∧ (n6 - 1) * 7 ≤ n - 12)) (ha : n ≤ 12) :
    (n3 ≤ 2 ∧ (n < 10 → n3 ≤ 1) ∧ (n < 6 → n3 = 0)) ∧ (n4 ≤ 1 ∧ (n < 8 → n4 = 0)) ∧ (n5 ≤ 1 ∧ (n < 10 → n5 = 0)) ∧ (n6 ≤ 1 ∧ (n < 12 → n6 = 0)) := by
  refine ⟨?_, ?_, ?_, ?_⟩
  · clear b4 b5 b6
    omega
  · clear b3 b5 b6
    omega
  · clear b3 b4 b6
    omega
  · clear b3 b4 b5
    omega
theorem few_arith {n n1 n2 n3 n4 n5 n6 x y : Nat} (h0 : 0 < n) (ha : n ≤ 12) (c1 : n1 ≤ x) (c1' : n1 ≤ y + 1) (c2 : 3 * n2 ≤ y) (eu : x + y = n - 1)
    (b3 : n3 = 0 ∨ (6 ≤ n ∧ (n3 - 1) * 4 ≤ n - 6)) (b4 : n4 = 0 ∨ (8 ≤ n ∧ (n4 - 1) * 5 ≤ n - 8)) (b5 : n5 = 0 ∨ (10 ≤ n ∧ (n5 - 1) * 6 ≤ n - 10)) (b6 : n6 = 0 ∨ (12 ≤ n ∧ (n6 - 1) * 7 ≤ n - 12))
    (x64 : n = 12 → 0 < n6 → n4 = 0) (x65 : n = 12 → 0 < n6 → n5 = 0) (x54 : n = 10 → 0 < n5 → n4 = 0) : n1 + n2 + n3 + n4 + n5 + n6 < n := by
  have h12 := few_two h0 c1 c1' c2 eu
  have h11 : n = 11 → n1 + n2 ≤ 6 := fun z => by
    subst z
    exact few_two' c1 c1' c2 eu
  obtain ⟨⟨p1, p2, p3⟩, ⟨q1, q2⟩, ⟨r1, r2⟩, s1, s2⟩ := few_top b3 b4 b5 b6 ha
  clear b3 b4 b5 b6 c1 c1' c2 eu
  have hn : n = 1 ∨ n = 2 ∨ n = 3 ∨ n = 4 ∨ n = 5 ∨ n = 6 ∨ n = 7 ∨ n = 8 ∨ n = 9 ∨ n = 10 ∨ n = 11 ∨ n = 12 := by omega
  rcases hn with rfl | rfl | rfl | rfl | rfl | rfl | rfl | rfl | rfl | rfl | rfl | rfl <;> simp at x64 x65 x54 h11 p2 p3 q2 r2 s2 <;> omega
theorem few_runs {a : List Nat} (h0 : 0 < a.length) (ha : a.length ≤ 12) : (runsL a).length < a.length := by
  rw [runs_sum ha]
  have c1 := count1 a
  have c1' := count1' a
  have c2 := count2 a
  have eu := eqs_uns a
  have b3 := begs_len (a := a) (p := 3) (by omega)
  have b4 := begs_len (a := a) (p := 4) (by omega)
  have b5 := begs_len (a := a) (p := 5) (by omega)
  have b6 := begs_len (a := a) (p := 6) (by omega)
  have x64 : a.length = 12 → 0 < (begs a 6).length → (begs a 4).length = 0 := fun hn hb => by
    have hw := whole_of (a := a) (q := 6) (by omega) hb
    rcases Nat.eq_zero_or_pos (begs a 4).length with z | z
    · exact z
    · obtain ⟨l, hl⟩ := List.exists_mem_of_length_pos z
      obtain ⟨e, r⟩ := mem_begs.mp hl
      exact (run_whole r hw (by decide) (by decide) (by decide)).elim
  have x65 : a.length = 12 → 0 < (begs a 6).length → (begs a 5).length = 0 := fun hn hb => by
    have hw := whole_of (a := a) (q := 6) (by omega) hb
    rcases Nat.eq_zero_or_pos (begs a 5).length with z | z
    · exact z
    · obtain ⟨l, hl⟩ := List.exists_mem_of_length_pos z
      obtain ⟨e, r⟩ := mem_begs.mp hl
      exact (run_whole r hw (by decide) (by decide) (by decide)).elim
  have x54 : a.length = 10 → 0 < (begs a 5).length → (begs a 4).length = 0 := fun hn hb => by
    have hw := whole_of (a := a) (q := 5) (by omega) hb
    rcases Nat.eq_zero_or_pos (begs a 4).length with z | z
    · exact z
    · obtain ⟨l, hl⟩ := List.exists_mem_of_length_pos z
      obtain ⟨e, r⟩ := mem_begs.mp hl
      exact (run_whole r hw (by decide) (by decide) (by decide)).elim
  exact few_arith h0 ha c1 c1' c2 eu b3 b4 b5 b6 x64 x65 x54
end RD

/-! The runs that the program keeps in a dict, sorted. -/
namespace RD
open PySem L2
abbrev tripE (t : Nat × Nat × Nat) : PyData := .tuple [.int (t.1 : Int), .int (t.2.1 : Int), .int (t.2.2 : Int)]
def tl3 (t : Nat × Nat × Nat) : List Int := [(t.1 : Int), (t.2.1 : Int), (t.2.2 : Int)]
theorem tl3_E (t : Nat × Nat × Nat) : tupE (tl3 t) = tripE t := rfl
theorem tl3_inj {s t : Nat × Nat × Nat} (h : tl3 s = tl3 t) : s = t := by
  obtain ⟨a, b, c⟩ := s
  obtain ⟨a', b', c'⟩ := t
  simp only [tl3, List.cons.injEq, and_true] at h
  obtain ⟨h1, h2, h3⟩ := h
  have e1 : a = a' := by omega
  have e2 : b = b' := by omega
  have e3 : c = c' := by omega
  rw [e1, e2, e3]
def addT (L : List (List Int)) (t : List Int) : List (List Int) := if t ∈ L then L else L ++ [t]
theorem keyT_inj {s t : List Int} (h : keyT s = keyT t) : s = t := by
  induction s generalizing t with
  | nil => cases t with
    | nil => rfl
    | cons _ _ => cases h
  | cons x s ih => cases t with
    | nil => cases h
    | cons y t =>
      simp only [keyT, List.map_cons, List.cons.injEq] at h
      rw [Sum.inl.inj h.1, ih h.2]
theorem putT_keys {ks : List (List Key × V)} {L : List (List Int)} {t : List Int} {v : V} (h : ks.map (·.1) = L.map keyT) : (putK ks (keyT t) v).map (·.1) = (addT L t).map keyT := by
  unfold putK addT
  have e : (ks.any fun kv => decide (kv.1 = keyT t)) = decide (t ∈ L) := by
    rw [Bool.eq_iff_iff, List.any_eq_true, decide_eq_true_eq]
    constructor
    · rintro ⟨x, hx, e⟩
      have : keyT t ∈ L.map keyT := by
        rw [← h, ← of_decide_eq_true e]
        exact List.mem_map_of_mem hx
      obtain ⟨y, hy, e2⟩ := List.mem_map.mp this
      rw [← keyT_inj e2]
      exact hy
    · intro ht
      have : keyT t ∈ ks.map (·.1) := by
        rw [h]
        exact List.mem_map_of_mem ht
      obtain ⟨x, hx, e2⟩ := List.mem_map.mp this
      exact ⟨x, hx, decide_eq_true e2⟩
  rw [e]
  by_cases ht : t ∈ L
  · rw [if_pos (decide_eq_true ht), if_pos ht, List.map_map, ← h]
    apply List.map_congr_left
    intro x _
    show (if x.1 = keyT t then (x.1, v) else x).1 = x.1
    split <;> rfl
  · rw [if_neg (by simpa using ht), if_neg ht, List.map_append, h]
    simp
theorem putT_len {ks : List (List Key × V)} {k : List Key} {v : V} : (putK ks k v).length ≤ ks.length + 1 := by
  unfold putK
  split
  · simp
  · simp
/-- one square more -/
def stepR (a : List Nat) (L : List (List Int)) (x : Nat × Nat) : List (List Int) := if keepRun a (growRun a x) = true then addT L (tl3 (growRun a x)) else L
def foundL (a : List Nat) : List (List Int) := (sqL a).foldl (stepR a) []
theorem mem_addT {L : List (List Int)} {t s : List Int} : s ∈ addT L t ↔ s ∈ L ∨ s = t := by
  unfold addT
  split
  · rename_i h
    exact ⟨Or.inl, fun z => z.elim id fun z => by rw [z]; exact h⟩
  · simp
theorem nodup_addT {L : List (List Int)} {t : List Int} (h : L.Nodup) : (addT L t).Nodup := by
  unfold addT
  split
  · exact h
  · rename_i hn
    rw [List.nodup_append]
    refine ⟨h, by simp, fun x hx y hy z => ?_⟩
    have : y = t := by simpa using hy
    subst this
    subst z
    exact hn hx
theorem fold_found (a : List Nat) : ∀ (M : List (Nat × Nat)) (L : List (List Int)), L.Nodup → (M.foldl (stepR a) L).Nodup ∧ ∀ s, s ∈ M.foldl (stepR a) L ↔ s ∈ L ∨ ∃ x ∈ M, keepRun a (growRun a x) = true ∧ s = tl3 (growRun a x)
  | [], L, h => ⟨h, fun s => by simp⟩
  | x :: M, L, h => by
    have h1 : (stepR a L x).Nodup := by
      unfold stepR
      split
      · exact nodup_addT h
      · exact h
    obtain ⟨i1, i2⟩ := fold_found a M (stepR a L x) h1
    refine ⟨i1, fun s => ?_⟩
    rw [List.foldl_cons, i2]
    have e : s ∈ stepR a L x ↔ s ∈ L ∨ (keepRun a (growRun a x) = true ∧ s = tl3 (growRun a x)) := by
      unfold stepR
      split
      · rename_i hk
        rw [mem_addT]
        simp [hk]
      · rename_i hk
        simp [hk]
    rw [e]
    constructor
    · rintro ((h | h) | ⟨y, hy, h⟩)
      · exact .inl h
      · exact .inr ⟨x, List.mem_cons_self, h⟩
      · exact .inr ⟨y, List.mem_cons_of_mem _ hy, h⟩
    · rintro (h | ⟨y, hy, h⟩)
      · exact .inl (.inl h)
      · rcases List.mem_cons.mp hy with z | z
        · subst z
          exact .inl (.inr h)
        · exact .inr ⟨y, z, h⟩
theorem mem_found {a : List Nat} {s : List Int} : s ∈ foundL a ↔ s ∈ (runsL a).map tl3 := by
  unfold foundL
  rw [(fold_found a (sqL a) [] List.nodup_nil).2, List.mem_map]
  constructor
  · rintro (h | ⟨x, hx, h1, rfl⟩)
    · cases h
    · exact ⟨_, grown.mp ⟨x, hx, rfl, h1⟩, rfl⟩
  · rintro ⟨t, ht, rfl⟩
    obtain ⟨x, hx, rfl, h2⟩ := grown.mpr ht
    exact .inr ⟨x, hx, h2, rfl⟩
theorem leT_le (x y : List Int) : leT x y = decide (x ≤ y) := by
  show (!PySem.W.dataLt (.tuple (y.map .int)) (.tuple (x.map .int))) = _
  rw [PySem.W.dataLt_tuple]
  show (!PySem.W.rowLt (y.map .int) (x.map .int)) = _
  rw [PySem.W.dataLt_ints]
  by_cases h : y < x
  · have h' : ¬ x ≤ y := fun r => List.not_lt.mpr r h
    simp [h, h']
  · have h' : x ≤ y := List.not_lt.mp h
    simp [h, h']
theorem lt_of_le_ne {x y : List Int} (h : x ≤ y) (hn : x ≠ y) : x < y := by
  by_cases z : x < y
  · exact z
  · exact absurd (List.le_antisymm h (List.not_lt.mp z)) hn
/-- sorted, and nothing twice -/
theorem sort_ints {L M : List (List Int)} (hL : L.Nodup) (hM : M.Pairwise (· < ·)) (h : ∀ s, s ∈ L ↔ s ∈ M) : L.mergeSort leT = M := by
  have e : (leT : List Int → List Int → Bool) = fun x y => decide (x ≤ y) := funext fun x => funext fun y => leT_le x y
  rw [e]
  have hs : (L.mergeSort fun x y => decide (x ≤ y)).Pairwise fun x y => decide (x ≤ y) = true := List.pairwise_mergeSort (fun x y z h1 h2 => by
    simp only [decide_eq_true_eq] at *
    exact List.le_trans h1 h2) (fun x y => by
    simp only [Bool.or_eq_true, decide_eq_true_eq]
    exact List.le_total x y) L
  have hp := List.mergeSort_perm L fun x y => decide (x ≤ y)
  have hn : (L.mergeSort fun x y => decide (x ≤ y)).Nodup := hp.symm.nodup hL
  have hlt : (L.mergeSort fun x y => decide (x ≤ y)).Pairwise (· < ·) := (hs.and hn).imp fun h => lt_of_le_ne (of_decide_eq_true h.1) h.2
  exact sorted_ext (fun x => List.lt_irrefl x) (fun x y h1 h2 => List.lt_irrefl x (List.lt_trans h1 h2)) hlt hM fun s => by rw [hp.mem_iff, h]
theorem tl3_lt {s t : Nat × Nat × Nat} (h : ltT s t) : tl3 s < tl3 t := by
  unfold tl3
  rcases h with h | ⟨h1, h2⟩
  · rw [List.cons_lt_cons_iff]
    left
    omega
  · rw [List.cons_lt_cons_iff]
    right
    refine ⟨by omega, ?_⟩
    rw [List.cons_lt_cons_iff]
    left
    omega
theorem runs_lt (a : List Nat) : ((runsL a).map tl3).Pairwise (· < ·) := by
  rw [List.pairwise_map]
  exact (runs_sorted a).imp tl3_lt
theorem sort_found (a : List Nat) : ((foundL a).mergeSort leT).map tupE = (runsL a).map tripE := by
  have hs : (foundL a).mergeSort leT = (runsL a).map tl3 := sort_ints (fold_found a (sqL a) [] List.nodup_nil).1 (runs_lt a) fun s => mem_found
  rw [hs, List.map_map]
  rfl
theorem found_ne {a : List Nat} : ∀ t ∈ foundL a, t ≠ [] := fun t ht z => by
  obtain ⟨u, _, e⟩ := List.mem_map.mp (mem_found.mp ht)
  rw [z] at e
  cases e
theorem sq_len (a : List Nat) : (sqL a).length ≤ a.length * a.length := by
  have := flat_len (f := sqAt a) (m := a.length) (sqAt_len a) (List.range a.length)
  rwa [List.length_range] at this
theorem cod_tripE : Cod tripE (fun _ => True) 1 := by
  have := cod_three cod_nat cod_nat cod_nat
  exact ⟨fun x _ => this.lay x ⟨trivial, trivial, trivial⟩, fun x _ => this.dep x ⟨trivial, trivial, trivial⟩, this.eqv⟩
theorem shaped_trips (L : List (Nat × Nat × Nat)) : SeqAt.shaped (.list (L.map tripE)) = true := (cod_list cod_tripE).shaped (x := L) (by omega) fun _ _ => trivial
theorem getD_iff {a : List Nat} {i j : Nat} (hi : i < a.length) (hj : j < a.length) : a.getD i 0 = a.getD j 0 ↔ a[i]? = a[j]? := by
  rw [List.getD_eq_getElem?_getD, List.getD_eq_getElem?_getD, List.getElem?_eq_getElem hi, List.getElem?_eq_getElem hj]
  simp
/-! ### squares by all stretches -/
def twB (a : List Nat) (x : Nat × Nat) : Bool := decide (2 * ((x.2 - x.1) / 2) = x.2 - x.1) && decide ((cutW a x.1 x.2).take ((x.2 - x.1) / 2) = (cutW a x.1 x.2).drop ((x.2 - x.1) / 2))
theorem tw_sq {a : List Nat} {s e : Nat} (h : s < e) (he : e ≤ a.length) : twB a (s, e) = true ↔ (s, e) ∈ sqL a := by
  rw [mem_sq]
  unfold twB
  simp only [Bool.and_eq_true, decide_eq_true_eq]
  have key : ∀ k, e = s + 2 * k → ((cutW a s e).take k = (cutW a s e).drop k ↔ PerW a s e k) := fun k hk => by
    subst hk
    rw [← sq_iff he]
    unfold sqB
    rw [decide_eq_true_eq]
    have e1 : (cutW a s (s + 2 * k)).take k = (a.take (s + k)).drop s := by
      rw [List.take_drop, List.take_take, Nat.min_eq_left (by omega)]
    have e2 : (cutW a s (s + 2 * k)).drop k = (a.take (s + 2 * k)).drop (s + k) := by
      rw [List.drop_drop]
    rw [e1, e2]
  constructor
  · rintro ⟨h1, h2⟩
    exact ⟨(e - s) / 2, by omega, by omega, he, (key _ (by omega)).mp h2⟩
  · rintro ⟨k, h0, h1, _, h2⟩
    have ek : (e - s) / 2 = k := by omega
    rw [ek]
    exact ⟨by omega, (key k h1).mpr h2⟩
theorem sq_sorted (a : List Nat) : (sqL a).Pairwise ltP := by
  unfold sqL
  rw [List.pairwise_flatMap]
  refine ⟨fun s _ => ?_, ?_⟩
  · unfold sqAt
    rw [List.pairwise_map]
    exact (List.Pairwise.filter _ List.pairwise_lt_range').imp fun h => Or.inr ⟨rfl, by show s + 2 * _ < s + 2 * _; omega⟩
  · refine List.Pairwise.imp (fun {s t} h x hx y hy => ?_) List.pairwise_lt_range
    unfold sqAt at hx hy
    obtain ⟨_, _, rfl⟩ := List.mem_map.mp hx
    obtain ⟨_, _, rfl⟩ := List.mem_map.mp hy
    exact Or.inl h
theorem tw_all (a : List Nat) : (piecesL a.length).filter (twB a) = sqL a := by
  refine sorted_ext (R := ltP) (fun x h => ?_) (fun x y h1 h2 => ?_) ((pieces_sorted a.length).filter _) (sq_sorted a) fun ⟨s, e⟩ => ?_
  · rcases h with h | h <;> omega
  · rcases h1 with h1 | h1 <;> rcases h2 with h2 | h2 <;> omega
  · rw [List.mem_filter, mem_pieces]
    constructor
    · rintro ⟨⟨h1, h2⟩, h3⟩
      exact (tw_sq h1 h2).mp h3
    · intro h
      obtain ⟨k, h0, h1, h2, _⟩ := mem_sq.mp h
      exact ⟨⟨by omega, h2⟩, (tw_sq (by omega) h2).mpr h⟩
/-- the runs of the word read backwards -/
theorem runs_back (a : List Nat) : (((runsL a).map fun t => (a.length - t.2.1, a.length - t.1, t.2.2)).map tl3).mergeSort leT = (runsL a.reverse).map tl3 := by
  refine sort_ints ?_ (runs_lt _) fun s => ?_
  · show List.Pairwise _ _
    rw [List.pairwise_map, List.pairwise_map]
    refine (runs_sorted a).imp_of_mem fun {x y} hx hy h z => ?_
    have z := tl3_inj z
    obtain ⟨l, e, p⟩ := x
    obtain ⟨l', e', p'⟩ := y
    have r := mem_runs.mp hx
    have r' := mem_runs.mp hy
    have := r.hn
    have := r'.hn
    have := r.lt
    have := r'.lt
    simp only [Prod.mk.injEq] at z
    rcases h with h | ⟨h1, h2⟩
    · simp only at h
      omega
    · simp only at h1 h2
      omega
  · rw [List.mem_map, List.mem_map]
    constructor
    · rintro ⟨t, ht, rfl⟩
      obtain ⟨⟨l, e, p⟩, hx, rfl⟩ := List.mem_map.mp ht
      exact ⟨_, mem_runs.mpr (run_rev (mem_runs.mp hx)), rfl⟩
    · rintro ⟨⟨l, e, p⟩, hx, rfl⟩
      have r := mem_runs.mp hx
      have r2 := run_rev r
      rw [List.reverse_reverse, List.length_reverse] at r2
      have h1 := r.hn
      rw [List.length_reverse] at h1
      have h2 := r.lt
      refine ⟨(l, e, p), List.mem_map.mpr ⟨_, mem_runs.mpr r2, ?_⟩, rfl⟩
      simp only [Prod.mk.injEq]
      exact ⟨by omega, by omega, trivial⟩
theorem sortF_trips (L : List (Nat × Nat × Nat)) (h : L.length ≤ 100000) : sortF [.list (L.map tripE)] = some (.list (((L.map tl3).mergeSort leT).map tupE)) := by
  have e1 : allAlike (L.map tripE) = true := by
    unfold allAlike
    rw [Bool.and_eq_true, Bool.and_eq_true]
    refine ⟨⟨?_, ?_⟩, ?_⟩
    · rw [List.all_eq_true]
      intro x hx
      rw [List.all_eq_true]
      intro y hy
      obtain ⟨s, _, rfl⟩ := List.mem_map.mp hx
      obtain ⟨t, _, rfl⟩ := List.mem_map.mp hy
      rfl
    · rw [List.all_eq_true]
      intro x hx
      obtain ⟨s, _, rfl⟩ := List.mem_map.mp hx
      rfl
    · refine decide_eq_true ?_
      have : ∀ M : List (Nat × Nat × Nat), PyData.depthAll (M.map tripE) ≤ 1 := fun M => by
        induction M with
        | nil => simp [PyData.depthAll]
        | cons x M ih =>
          simp only [List.map_cons, PyData.depthAll, PyData.depth]
          omega
      have := this L
      omega
  have e2 : sortKind (L.map tripE) = true := by
    unfold sortKind
    rw [Bool.or_eq_true]
    left
    rw [List.all_eq_true]
    intro x hx
    obtain ⟨s, _, rfl⟩ := List.mem_map.mp hx
    rfl
  show (if allAlike (L.map tripE) = true ∧ sortKind (L.map tripE) = true ∧ (L.map tripE).length ≤ sizeLine then some (PyData.list ((L.map tripE).mergeSort leData)) else none) = _
  rw [if_pos ⟨e1, e2, by rw [List.length_map]; exact le_line h⟩]
  congr 2
  have e3 : L.map tripE = (L.map tl3).map tupE := by
    rw [List.map_map]
    rfl
  rw [e3]
  exact (List.map_mergeSort (r := leT) (s := leData) (f := tupE) fun _ _ _ _ => rfl).symm
end RD

/-! Powers of a root: their periods, runs, squares; one letter changed. -/
namespace RD
open PySem L2
/-- its own root -/
def Prim (r : List Nat) : Prop := r ≠ [] ∧ rootN r = r.length
theorem prim_root {a : List Nat} (h : a ≠ []) : Prim (rootL a) := by
  refine ⟨rootL_ne h, ?_⟩
  have h1 := rootL_len (rootL_ne h)
  rw [root_root h] at h1
  exact h1.symm
theorem Prim.pos {r : List Nat} (h : Prim r) : 0 < r.length := List.length_pos_iff.mpr h.1
theorem pw_ne {r : List Nat} {k : Nat} (h : r ≠ []) (hk : 0 < k) : pw r k ≠ [] := fun z => by
  have := pw_len r k
  rw [z] at this
  have h1 : 0 < r.length := List.length_pos_iff.mpr h
  have h2 : 0 < k * r.length := Nat.mul_pos hk h1
  simp at this
  omega
theorem Prim.root {r : List Nat} (h : Prim r) : rootL r = r := by
  unfold rootL
  rw [h.2]
  simp
theorem Prim.pw_root {r : List Nat} {k : Nat} (h : Prim r) (hk : 0 < k) : rootL (pw r k) = r := by rw [root_of_pw h.1 hk, h.root]
theorem Prim.pw_rootN {r : List Nat} {k : Nat} (h : Prim r) (hk : 0 < k) : rootN (pw r k) = r.length := by
  rw [← rootL_len (pw_ne h.1 hk), h.pw_root hk]
theorem Prim.pw_exp {r : List Nat} {k : Nat} (h : Prim r) (hk : 0 < k) : expN (pw r k) = k := by
  unfold expN
  rw [h.pw_rootN hk, pw_len, Nat.mul_div_cancel _ h.pos]
theorem per_times {a : List Nat} {p : Nat} (h : perB a p = true) : ∀ j, (j + 1) * p ≤ a.length → perB a ((j + 1) * p) = true
  | 0, _ => by simpa using h
  | j + 1, hl => by
    have e : (j + 1 + 1) * p = (j + 1) * p + p := Nat.succ_mul _ _
    rw [e] at hl ⊢
    exact per_add hl (per_times h j (by omega)) h
theorem Prim.dvd {r : List Nat} {k p : Nat} (h : Prim r) (hk : 0 < k) (hp : 0 < p) (hl : p + r.length ≤ (pw r k).length) (hper : perB (pw r k) p = true) : r.length ∣ p := by
  have hs := h.pos
  have hlen := pw_len r k
  have hg := per_gcd hp hs (by omega) (by omega) hper (per_pow hk) (by omega)
  have hgp : 0 < Nat.gcd p r.length := Nat.gcd_pos_of_pos_left _ hp
  have hgd : Nat.gcd p r.length ∣ (pw r k).length := by
    rw [hlen]
    exact Nat.dvd_trans (Nat.gcd_dvd_right _ _) ⟨k, Nat.mul_comm _ _⟩
  have hle := rootN_le hgp (by have := Nat.gcd_le_right p hs; omega) hg (Nat.mod_eq_zero_of_dvd hgd)
  rw [h.pw_rootN hk] at hle
  have : Nat.gcd p r.length = r.length := Nat.le_antisymm (Nat.gcd_le_right p hs) hle
  rw [← this]
  exact Nat.gcd_dvd_left _ _
theorem Prim.len2 {r : List Nat} {k : Nat} (h : Prim r) (hk : 1 < k) : 2 * r.length ≤ (pw r k).length := by
  rw [pw_len]
  exact Nat.mul_le_mul_right _ hk
theorem Prim.least {r : List Nat} {k q : Nat} (h : Prim r) (hk : 1 < k) (q0 : 0 < q) (q1 : q < r.length) : perB (pw r k) q ≠ true := fun z => by
  have := h.dvd (by omega) q0 (by have := h.len2 hk; omega) z
  have := Nat.le_of_dvd q0 this
  omega
theorem Prim.minP {r : List Nat} {k : Nat} (h : Prim r) (hk : 1 < k) : minP (pw r k) = r.length := by
  obtain ⟨m0, m1, m2, m3⟩ := minP_is (pw_ne h.1 (by omega : 0 < k))
  have h2 := h.len2 hk
  have e1 := m3 r.length h.pos (by omega) (per_pow (by omega))
  rcases Nat.lt_or_ge (RD.minP (pw r k)) r.length with z | z
  · exact absurd m2 (h.least hk m0 z)
  · omega
theorem per_whole {a : List Nat} {p : Nat} (hp : p ≤ a.length) : perB a p = true ↔ PerW a 0 a.length p := by
  rw [per_iff hp]
  constructor
  · intro h i _ hi
    exact h i hi
  · intro h i hi
    exact h i (Nat.zero_le _) hi
/-- a word with this prefix and period is a run -/
theorem whole_run {b : List Nat} {s : Nat} (s0 : 0 < s) (hl : 2 * s ≤ b.length) (hp : perB b s = true) (hm : ∀ q, 0 < q → q < s → perB b q ≠ true) : IsRun b 0 b.length s :=
  ⟨Nat.le_refl _, s0, by omega, (per_whole (by omega)).mp hp, fun q q0 q1 z => hm q q0 q1 ((per_whole (by omega)).mpr z), fun z => by omega, fun z => by omega⟩
theorem Prim.run {r : List Nat} {k : Nat} (h : Prim r) (hk : 1 < k) : IsRun (pw r k) 0 (pw r k).length r.length := whole_run h.pos (h.len2 hk) (per_pow (by omega)) fun _ q0 q1 => h.least hk q0 q1
/-! ### multiples -/
theorem Prim.mults {r : List Nat} {k : Nat} (h : Prim r) (hk : 0 < k) : (periodsL (pw r k)).filter (fun p => decide (p % r.length = 0)) = (List.range k).map fun i => r.length + i * r.length := by
  have hs := h.pos
  refine sorted_ext (R := fun x y : Nat => x < y) (fun x => Nat.lt_irrefl x) (fun x y h1 h2 => by omega) ?_ ?_ fun x => ?_
  · exact List.Pairwise.filter _ (List.Pairwise.filter _ List.pairwise_lt_range')
  · rw [List.pairwise_map]
    exact List.pairwise_lt_range.imp fun {i j} hij => by
      have : i * r.length < j * r.length := Nat.mul_lt_mul_of_pos_right hij hs
      omega
  · rw [List.mem_filter, mem_periods, List.mem_map, decide_eq_true_eq, pw_len]
    constructor
    · rintro ⟨⟨h1, h2, h3⟩, h4⟩
      obtain ⟨c, hc⟩ := Nat.dvd_of_mod_eq_zero h4
      rw [hc] at h1 h2
      have c0 : 0 < c := by
        rcases Nat.eq_zero_or_pos c with z | z
        · subst z
          simp at h1
        · exact z
      rw [Nat.mul_comm] at h2
      have ck : c ≤ k := Nat.le_of_mul_le_mul_right h2 hs
      refine ⟨c - 1, List.mem_range.mpr (by omega), ?_⟩
      obtain ⟨d, rfl⟩ : ∃ d, c = d + 1 := ⟨c - 1, by omega⟩
      rw [hc, Nat.add_sub_cancel, Nat.mul_succ, Nat.mul_comm d, Nat.add_comm]
    · rintro ⟨i, hi, rfl⟩
      have hi := List.mem_range.mp hi
      have e : r.length + i * r.length = (i + 1) * r.length := by rw [Nat.succ_mul, Nat.add_comm]
      have hl : (i + 1) * r.length ≤ k * r.length := Nat.mul_le_mul_right _ hi
      rw [e]
      refine ⟨⟨Nat.mul_pos (by omega) hs, hl, per_times (per_pow hk) i (by rw [pw_len]; exact hl)⟩, ?_⟩
      exact Nat.mul_mod_left _ _
/-! ### squares of a power -/
theorem Prim.squares {r : List Nat} {k : Nat} (h : Prim r) (hk : 0 < k) : k - 1 ≤ (sqL (pw r k)).length := by
  have hs := h.pos
  have : ((List.range (k - 1)).map fun j => (j * r.length, j * r.length + 2 * r.length)).length ≤ (sqL (pw r k)).length := by
    refine subset_len ?_ fun x hx => ?_
    · show List.Pairwise _ _
      rw [List.pairwise_map]
      refine List.pairwise_lt_range.imp fun {i j} hij z => ?_
      injection z with z _
      have : i * r.length < j * r.length := Nat.mul_lt_mul_of_pos_right hij hs
      omega
    · obtain ⟨j, hj, rfl⟩ := List.mem_map.mp hx
      have hj := List.mem_range.mp hj
      have hle : (j + 2) * r.length ≤ k * r.length := Nat.mul_le_mul_right _ (by omega)
      have e : (j + 2) * r.length = j * r.length + 2 * r.length := Nat.add_mul _ _ _
      rw [e] at hle
      have hw := (per_whole (a := pw r k) (p := r.length) (by rw [pw_len]; omega)).mp (per_pow hk)
      exact mem_sq.mpr ⟨r.length, hs, rfl, by rw [pw_len]; exact hle, hw.sub (Nat.zero_le _) (by rw [pw_len]; exact hle)⟩
  rwa [List.length_map, List.length_range] at this
theorem borders_count {a : List Nat} (h : a ≠ []) : (bordersL a).length + 1 = (periodsL a).length := by
  have e := congrArg List.length (borders_periods a)
  rw [List.length_reverse, List.length_map, List.length_take] at e
  have : (periodsL a) ≠ [] := fun z => by
    have hl := periods_last h
    rw [z] at hl
    cases hl
  have : 0 < (periodsL a).length := List.length_pos_iff.mpr this
  omega
/-! ### one letter changed -/
theorem per_cyc {a : List Nat} {p i : Nat} (hp : p ≤ a.length) (hd : p ∣ a.length) (h : perB a p = true) (hn : 0 < a.length) : a[i % a.length]? = a[i % p]? := by
  have := per_mod ((per_iff hp).mp h) (i % a.length) (Nat.mod_lt _ hn)
  rwa [Nat.mod_mod_of_dvd _ hd] at this
theorem changed {a : List Nat} {s t m c : Nat} (hm : m < a.length) (hc : a[m]? ≠ some c) (hs : perB a s = true) (ds : s ∣ a.length) (h2 : 2 * s ≤ a.length) (s0 : 0 < s) (t0 : 0 < t) (hts : t ≤ s) (dt : t ∣ a.length) (ht : perB (a.set m c) t = true) : False := by
  have ln : (a.set m c).length = a.length := List.length_set
  have n0 : 0 < a.length := by omega
  have F : ∀ i, a[i % a.length]? = a[i % s]? := fun i => per_cyc (by omega) ds hs n0
  have G : ∀ i, (a.set m c)[i % a.length]? = (a.set m c)[i % t]? := fun i => by
    have := per_cyc (a := a.set m c) (i := i) (p := t) (by omega) (by rw [ln]; exact dt) ht (by omega)
    rwa [ln] at this
  have same : ∀ d, 0 < d → d < a.length → (a.set m c)[(m + d) % a.length]? = a[(m + d) % a.length]? := fun d d0 d1 => by
    refine List.getElem?_set_ne fun z => ?_
    rcases Nat.lt_or_ge (m + d) a.length with q | q
    · rw [Nat.mod_eq_of_lt q] at z
      omega
    · rw [Nat.mod_eq_sub_mod q, Nat.mod_eq_of_lt (by omega)] at z
      omega
  have fs : ∀ i, a[(i + s) % a.length]? = a[i % a.length]? := fun i => by rw [F, F, Nat.add_mod_right]
  have gt : ∀ i, (a.set m c)[(i + t) % a.length]? = (a.set m c)[i % a.length]? := fun i => by rw [G, G, Nat.add_mod_right]
  have em : m % a.length = m := Nat.mod_eq_of_lt hm
  have key : a[m % a.length]? = (a.set m c)[m % a.length]? := by
    by_cases e : t = s
    · subst e
      rw [← fs m, ← same t t0 (by omega), gt]
    · have h3 : s + t < a.length := by omega
      rw [← fs m, ← same s s0 (by omega), ← gt (m + s), Nat.add_assoc, same (s + t) (by omega) h3, Nat.add_comm s t, ← Nat.add_assoc, fs, ← same t t0 (by omega), gt]
  rw [em, List.getElem?_set_self hm] at key
  exact hc key
theorem Prim.changed {r : List Nat} {k m c : Nat} (h : Prim r) (hk : 1 < k) (hm : m < (pw r k).length) (hc : (pw r k)[m]? ≠ some c) : expN ((pw r k).set m c) < k := by
  have ln : ((pw r k).set m c).length = (pw r k).length := List.length_set
  have hs := h.pos
  have hne : (pw r k).set m c ≠ [] := fun z => by
    rw [z] at ln
    simp at ln
    omega
  have hr := rootN_is hne
  have he := exp_mul hne
  rw [ln] at hr he
  rcases Nat.lt_or_ge (expN ((pw r k).set m c)) k with z | z
  · exact z
  · exfalso
    have hle : rootN ((pw r k).set m c) ≤ r.length := by
      rcases Nat.lt_or_ge r.length (rootN ((pw r k).set m c)) with q | q
      · have h1 : k * r.length < k * rootN ((pw r k).set m c) := Nat.mul_lt_mul_of_pos_left q (by omega)
        have h2 : k * rootN ((pw r k).set m c) ≤ expN ((pw r k).set m c) * rootN ((pw r k).set m c) := Nat.mul_le_mul_right _ z
        rw [pw_len] at he
        omega
      · exact q
    exact RD.changed hm hc (per_pow (by omega)) ⟨k, by rw [pw_len, Nat.mul_comm]⟩ (h.len2 hk) hs hr.1 hle (Nat.dvd_of_mod_eq_zero hr.2.2.2) hr.2.2.1
/-! ### a power and a bit -/
theorem take_per {a : List Nat} {p m : Nat} (h : perB a p = true) (hp : p ≤ m) (hm : m ≤ a.length) : perB (a.take m) p = true := by
  have hl : (a.take m).length = m := by
    rw [List.length_take]
    omega
  rw [per_iff (by omega), hl]
  intro i hi
  have := (per_iff (by omega)).mp h i (by omega)
  simp only [List.getElem?_take]
  rw [if_pos (by omega), if_pos (by omega)]
  exact this
theorem longer_is {r : List Nat} {k t : Nat} (ht : t ≤ r.length) : (pw r k ++ r.take t).take 12 = (pw r (k + 1)).take (min 12 (k * r.length + t)) := by
  have e : pw r k ++ r.take t = (pw r (k + 1)).take (k * r.length + t) := by
    have e1 : (pw r k).take (k * r.length + t) = pw r k := List.take_of_length_le (by rw [pw_len]; omega)
    rw [pw_succ', List.take_append, pw_len, e1, show k * r.length + t - k * r.length = t by omega]
  rw [e, List.take_take]
theorem Prim.longer {r : List Nat} {k t : Nat} (h : Prim r) (hk : 0 < k) (ht : t ≤ r.length) (hn : k * r.length ≤ 12) : perB ((pw r k ++ r.take t).take 12) r.length = true ∧ ((pw r k ++ r.take t).take 12).length = min 12 (k * r.length + t) ∧ r.length ≤ min 12 (k * r.length + t) := by
  have hs := h.pos
  have h1 : r.length ≤ k * r.length := Nat.le_mul_of_pos_left _ hk
  have h2 : r.length ≤ min 12 (k * r.length + t) := by omega
  have hlen := pw_len r (k + 1)
  rw [Nat.succ_mul] at hlen
  rw [longer_is ht]
  refine ⟨take_per (per_pow (by omega)) h2 (by omega), ?_, h2⟩
  rw [List.length_take]
  omega
theorem Prim.longer_run {r : List Nat} {k t : Nat} (h : Prim r) (hk : 1 < k) (ht : t ≤ r.length) (hn : k * r.length ≤ 12) : IsRun ((pw r k ++ r.take t).take 12) 0 ((pw r k ++ r.take t).take 12).length r.length := by
  obtain ⟨h1, h2, h3⟩ := h.longer (by omega) ht hn
  have h4 := h.len2 hk
  have hlen := pw_len r k
  refine whole_run h.pos (by omega) h1 fun q q0 q1 z => ?_
  have e : ((pw r k ++ r.take t).take 12).take (pw r k).length = pw r k := by
    rw [List.take_take, Nat.min_eq_left (by omega), List.take_left' rfl]
  have := take_per z (m := (pw r k).length) (by omega) (by omega)
  rw [e] at this
  exact h.least hk q0 q1 this
end RD

/-! Parts and mirrors: each letter brings at most one new mirror; full words. -/
namespace RD
open PySem L2
/-! ### lists of words without repetition, sorted -/
theorem mem_addW {L : List (List Nat)} {w v : List Nat} : v ∈ addW L w ↔ v ∈ L ∨ v = w := by
  unfold addW
  split
  · rename_i h
    exact ⟨Or.inl, fun z => z.elim id fun z => by rw [z]; exact h⟩
  · simp
theorem nodup_addW {L : List (List Nat)} {w : List Nat} (h : L.Nodup) : (addW L w).Nodup := by
  unfold addW
  split
  · exact h
  · rename_i hn
    rw [List.nodup_append]
    refine ⟨h, by simp, fun x hx y hy z => ?_⟩
    have : y = w := by simpa using hy
    subst this
    subst z
    exact hn hx
theorem fold_addW : ∀ (M L : List (List Nat)), L.Nodup → (M.foldl addW L).Nodup ∧ ∀ v, v ∈ M.foldl addW L ↔ v ∈ L ∨ v ∈ M
  | [], L, h => ⟨h, fun v => by simp⟩
  | w :: M, L, h => by
    obtain ⟨h1, h2⟩ := fold_addW M (addW L w) (nodup_addW h)
    refine ⟨h1, fun v => ?_⟩
    rw [List.foldl_cons, h2, mem_addW]
    simp only [List.mem_cons]
    constructor
    · rintro ((h | h) | h)
      · exact .inl h
      · exact .inr (.inl h)
      · exact .inr (.inr h)
    · rintro (h | h | h)
      · exact .inl (.inl h)
      · exact .inl (.inr h)
      · exact .inr h
theorem uniq_nodup (M : List (List Nat)) : (uniq M).Nodup := (fold_addW M [] List.nodup_nil).1
theorem mem_uniq {M : List (List Nat)} {v : List Nat} : v ∈ uniq M ↔ v ∈ M := by
  unfold uniq
  rw [(fold_addW M [] List.nodup_nil).2]
  simp
theorem ltW_of {x y : List Nat} (h : x ≤ y) (hn : x ≠ y) : x < y := by
  by_cases z : x < y
  · exact z
  · exact absurd (List.le_antisymm h (List.not_lt.mp z)) hn
theorem sortW_lt {L : List (List Nat)} (hL : L.Nodup) : (L.mergeSort leW).Pairwise (· < ·) := by
  have hs : (L.mergeSort leW).Pairwise fun x y => leW x y = true := List.pairwise_mergeSort (fun x y z h1 h2 => by
    simp only [leW, decide_eq_true_eq] at *
    exact List.le_trans h1 h2) (fun x y => by
    simp only [leW, Bool.or_eq_true, decide_eq_true_eq]
    exact List.le_total x y) L
  have hn : (L.mergeSort leW).Nodup := (List.mergeSort_perm L leW).symm.nodup hL
  exact (hs.and hn).imp fun h => ltW_of (of_decide_eq_true h.1) h.2
theorem sortedW_ext {L M : List (List Nat)} (hL : L.Pairwise (· < ·)) (hM : M.Pairwise (· < ·)) (h : ∀ s, s ∈ L ↔ s ∈ M) : L = M :=
  sorted_ext (fun x => List.lt_irrefl x) (fun x y h1 h2 => List.lt_irrefl x (List.lt_trans h1 h2)) hL hM h
theorem sortW_ext {L M : List (List Nat)} (hL : L.Nodup) (hM : M.Pairwise (· < ·)) (h : ∀ s, s ∈ L ↔ s ∈ M) : L.mergeSort leW = M :=
  sortedW_ext (sortW_lt hL) hM fun s => by rw [(List.mergeSort_perm L leW).mem_iff, h]
theorem mem_facs {a w : List Nat} : w ∈ facs a ↔ w ≠ [] ∧ infixB w a = true := by
  unfold facs facsAt
  simp only [List.mem_flatMap, List.mem_range, List.mem_map]
  constructor
  · rintro ⟨i, hi, k, hk, rfl⟩
    refine ⟨fun z => ?_, infixB_iff.mpr ⟨a.take i, a.drop (i + 1 + k), ?_⟩⟩
    · have := congrArg List.length z
      simp at this
      omega
    · have e : a.take i ++ (a.take (i + 1 + k)).drop i = a.take (i + 1 + k) := by
        have := List.take_append_drop i (a.take (i + 1 + k))
        rwa [List.take_take, Nat.min_eq_left (by omega)] at this
      rw [e, List.take_append_drop]
  · rintro ⟨hne, h⟩
    obtain ⟨x, y, e⟩ := infixB_iff.mp h
    have hl : 0 < w.length := List.length_pos_iff.mpr hne
    have hlen := congrArg List.length e
    simp only [List.length_append] at hlen
    refine ⟨x.length, by omega, w.length - 1, by omega, ?_⟩
    rw [e, show x.length + 1 + (w.length - 1) = x.length + w.length by omega]
    have : (x ++ w ++ y).take (x.length + w.length) = x ++ w := List.take_left' (by simp)
    rw [this, List.drop_left' rfl]
theorem mem_partsL {a w : List Nat} : w ∈ partsL a ↔ w ≠ [] ∧ infixB w a = true := by
  unfold partsL
  rw [(List.mergeSort_perm _ _).mem_iff, mem_uniq, mem_facs]
theorem parts_lt (a : List Nat) : (partsL a).Pairwise (· < ·) := sortW_lt (uniq_nodup _)
theorem mem_mirL {a w : List Nat} : w ∈ mirL a ↔ infixB w a = true ∧ mirB w = true := by
  unfold mirL
  rw [List.mem_filter, mem_partsL]
  constructor
  · rintro ⟨⟨_, h1⟩, h2⟩
    exact ⟨h1, h2⟩
  · rintro ⟨h1, h2⟩
    exact ⟨⟨(mirB_iff.mp h2).1, h1⟩, h2⟩
theorem mir_lt (a : List Nat) : (mirL a).Pairwise (· < ·) := (parts_lt a).filter _
theorem mir_nodup (a : List Nat) : (mirL a).Nodup := (mir_lt a).imp fun h z => by
  subst z
  exact List.lt_irrefl _ h
theorem infix_rev {a b : List Nat} (h : infixB a b = true) : infixB a.reverse b.reverse = true := by
  obtain ⟨x, y, e⟩ := infixB_iff.mp h
  exact infixB_iff.mpr ⟨y.reverse, x.reverse, by rw [e]; simp⟩
theorem infix_trans {a b c : List Nat} (h : infixB a b = true) (h' : infixB b c = true) : infixB a c = true := by
  obtain ⟨x, y, rfl⟩ := infixB_iff.mp h
  obtain ⟨u, v, rfl⟩ := infixB_iff.mp h'
  exact infixB_iff.mpr ⟨u ++ x, y ++ v, by simp⟩
theorem mir_rev (a : List Nat) : mirL a.reverse = mirL a := by
  refine sortedW_ext (mir_lt _) (mir_lt _) fun w => ?_
  rw [mem_mirL, mem_mirL]
  constructor
  · rintro ⟨h1, h2⟩
    refine ⟨?_, h2⟩
    have := infix_rev h1
    rwa [List.reverse_reverse, ← (mirB_iff.mp h2).2] at this
  · rintro ⟨h1, h2⟩
    refine ⟨?_, h2⟩
    have := infix_rev h1
    rwa [← (mirB_iff.mp h2).2] at this
/-! ### one letter more -/
/-- the longest mirror at the end -/
def lastW (a : List Nat) : List Nat := a.drop (a.length - lastAt a a.length)
theorem lastAt_is {a : List Nat} (h : a ≠ []) : 0 < lastAt a a.length ∧ lastAt a a.length ≤ a.length ∧ mirB (lastW a) = true ∧ ∀ s, 0 < s → s ≤ a.length → mirB (a.drop (a.length - s)) = true → s ≤ lastAt a a.length := by
  have hl : 0 < a.length := List.length_pos_iff.mpr h
  obtain ⟨t, ht⟩ := lastC_head hl (Nat.le_refl _)
  have hm : lastAt a a.length ∈ lastC a a.length := by rw [ht]; exact List.mem_cons_self
  unfold lastC at hm
  rw [List.mem_filter, mem_down, List.take_length] at hm
  refine ⟨hm.1.1, hm.1.2, hm.2, fun s s0 s1 s2 => ?_⟩
  have hs : s ∈ lastC a a.length := by
    unfold lastC
    rw [List.mem_filter, mem_down, List.take_length]
    exact ⟨⟨s0, s1⟩, s2⟩
  have hp : (lastC a a.length).Pairwise (· > ·) := by
    unfold lastC
    refine List.Pairwise.filter _ ?_
    unfold downL
    rw [List.pairwise_map]
    refine List.Pairwise.imp_of_mem (fun {x y} hx hy h => ?_) List.pairwise_lt_range
    have := List.mem_range.mp hx
    have := List.mem_range.mp hy
    omega
  rw [ht] at hs hp
  rcases List.mem_cons.mp hs with z | z
  · omega
  · have := (List.pairwise_cons.mp hp).1 s z
    omega
theorem lastW_len {a : List Nat} (h : a ≠ []) : (lastW a).length = lastAt a a.length := by
  have := lastAt_is h
  unfold lastW
  rw [List.length_drop]
  omega
theorem drop_suffix {a w : List Nat} : w = a.drop (a.length - w.length) ↔ ∃ x, a = x ++ w := by
  constructor
  · intro h
    refine ⟨a.take (a.length - w.length), ?_⟩
    have := List.take_append_drop (a.length - w.length) a
    rw [← h] at this
    exact this.symm
  · rintro ⟨x, rfl⟩
    simp
/-- a mirror in the longer word is in the shorter one, or the longest at the end -/
theorem mir_app {a w : List Nat} {c : Nat} (hm : mirB w = true) (hi : infixB w (a ++ [c]) = true) : infixB w a = true ∨ w = lastW (a ++ [c]) := by
  obtain ⟨x, y, e⟩ := infixB_iff.mp hi
  have hw := mirB_iff.mp hm
  rcases List.eq_nil_or_concat y with hy | ⟨y', d, hy⟩
  · subst hy
    rw [List.append_nil] at e
    have hne : a ++ [c] ≠ [] := by simp
    obtain ⟨l0, l1, l2, l3⟩ := lastAt_is hne
    have hwl : 0 < w.length := List.length_pos_iff.mpr hw.1
    have hlen := congrArg List.length e
    simp only [List.length_append] at hlen
    have hsuf : w = (a ++ [c]).drop ((a ++ [c]).length - w.length) := drop_suffix.mpr ⟨x, e⟩
    have hle := l3 w.length hwl (by rw [List.length_append]; omega) (by rw [← hsuf]; exact hm)
    rcases Nat.lt_or_ge w.length (lastAt (a ++ [c]) (a ++ [c]).length) with z | z
    · left
      -- w ends the longest mirror, so it begins it
      have hL := mirB_iff.mp l2
      have hll := lastW_len hne
      obtain ⟨u, hu⟩ : ∃ u, lastW (a ++ [c]) = u ++ w := by
        refine drop_suffix.mp ?_
        unfold lastW
        rw [List.drop_drop]
        have : (a ++ [c]).length - lastAt (a ++ [c]) (a ++ [c]).length + (((a ++ [c]).drop ((a ++ [c]).length - lastAt (a ++ [c]) (a ++ [c]).length)).length - w.length) = (a ++ [c]).length - w.length := by
          rw [List.length_drop]
          omega
        rw [this]
        exact hsuf
      have hpre : lastW (a ++ [c]) = w ++ u.reverse := by
        rw [hL.2, hu, List.reverse_append, ← hw.2]
      have hul : 0 < u.length := by
        have := congrArg List.length hu
        rw [List.length_append, hll] at this
        omega
      obtain ⟨v, hv⟩ : ∃ v, a ++ [c] = v ++ lastW (a ++ [c]) := ⟨(a ++ [c]).take ((a ++ [c]).length - lastAt (a ++ [c]) (a ++ [c]).length), (List.take_append_drop _ _).symm⟩
      rw [hpre] at hv
      rcases List.eq_nil_or_concat u.reverse with q | ⟨u', d, q⟩
      · simp at q
        rw [q] at hul
        simp at hul
      · rw [q, List.concat_eq_append, ← List.append_assoc, ← List.append_assoc] at hv
        obtain ⟨h1, _⟩ := List.append_inj' hv rfl
        exact infixB_iff.mpr ⟨v, u', by rw [h1]⟩
    · right
      have : w.length = lastAt (a ++ [c]) (a ++ [c]).length := by omega
      unfold lastW
      rw [← this]
      exact hsuf
  · left
    subst hy
    rw [List.concat_eq_append, ← List.append_assoc] at e
    obtain ⟨h1, _⟩ := List.append_inj' e rfl
    exact infixB_iff.mpr ⟨x, y', by rw [h1]⟩
/-- does the last letter bring a new mirror -/
def newM (a : List Nat) : Bool := !infixB (lastW a) (a.take (a.length - 1))
theorem mir_succ (a : List Nat) (c : Nat) : (mirL (a ++ [c])).length = (mirL a).length + (if newM (a ++ [c]) = true then 1 else 0) := by
  have hne : a ++ [c] ≠ [] := by simp
  obtain ⟨l0, l1, l2, l3⟩ := lastAt_is hne
  have hdrop : (a ++ [c]).take ((a ++ [c]).length - 1) = a := by
    rw [List.length_append]
    exact List.take_left' (by simp)
  have hli : infixB (lastW (a ++ [c])) (a ++ [c]) = true := infixB_iff.mpr ⟨(a ++ [c]).take ((a ++ [c]).length - lastAt (a ++ [c]) (a ++ [c]).length), [], by
    unfold lastW
    rw [List.append_nil, List.take_append_drop]⟩
  have hai : infixB a (a ++ [c]) = true := infixB_iff.mpr ⟨[], [c], by simp⟩
  have hn : newM (a ++ [c]) = !infixB (lastW (a ++ [c])) a := by
    unfold newM
    rw [hdrop]
  rw [hn]
  cases hi : infixB (lastW (a ++ [c])) a with
  | true =>
    have e : mirL (a ++ [c]) = mirL a := sortedW_ext (mir_lt _) (mir_lt _) fun w => by
      rw [mem_mirL, mem_mirL]
      constructor
      · rintro ⟨h1, h2⟩
        rcases mir_app h2 h1 with z | z
        · exact ⟨z, h2⟩
        · rw [z]
          exact ⟨hi, l2⟩
      · rintro ⟨h1, h2⟩
        exact ⟨infix_trans h1 hai, h2⟩
    rw [e]
    simp
  | false =>
    have h1 : (mirL (a ++ [c])).length ≤ (lastW (a ++ [c]) :: mirL a).length := subset_len (mir_nodup _) fun w hw => by
      obtain ⟨h1, h2⟩ := mem_mirL.mp hw
      rcases mir_app h2 h1 with z | z
      · exact List.mem_cons_of_mem _ (mem_mirL.mpr ⟨z, h2⟩)
      · rw [z]
        exact List.mem_cons_self
    have h2 : (lastW (a ++ [c]) :: mirL a).length ≤ (mirL (a ++ [c])).length := by
      refine subset_len (List.nodup_cons.mpr ⟨fun z => ?_, mir_nodup a⟩) fun w hw => ?_
      · have := (mem_mirL.mp z).1
        rw [hi] at this
        cases this
      · rcases List.mem_cons.mp hw with z | z
        · rw [z]
          exact mem_mirL.mpr ⟨hli, l2⟩
        · obtain ⟨h1, h2⟩ := mem_mirL.mp z
          exact mem_mirL.mpr ⟨infix_trans h1 hai, h2⟩
    simp only [List.length_cons, Bool.not_false, if_true] at h1 h2 ⊢
    omega
theorem mir_nil : mirL [] = [] := by
  refine List.eq_nil_iff_forall_not_mem.mpr fun w hw => ?_
  obtain ⟨h1, h2⟩ := mem_mirL.mp hw
  have := infixB_len h1
  have hl : 0 < w.length := List.length_pos_iff.mpr (mirB_iff.mp h2).1
  rw [List.length_nil] at this
  omega
/-- the ends at which a new mirror comes -/
def newAt (a : List Nat) (e : Nat) : Bool := newM (a.take e)
theorem mir_count (a : List Nat) : ∀ m, m ≤ a.length → (mirL (a.take m)).length = ((List.range' 1 m).filter (newAt a)).length
  | 0, _ => by simp [mir_nil]
  | m + 1, h => by
    have e : a.take (m + 1) = a.take m ++ [a[m]] := (List.take_succ_eq_append_getElem (by omega)).trans rfl
    rw [List.range'_concat, List.filter_append, List.length_append, ← mir_count a m (by omega)]
    conv => lhs; rw [e]
    rw [mir_succ, ← e, show 1 + 1 * m = m + 1 by omega]
    congr 1
    have q : newAt a (m + 1) = newM (a.take (m + 1)) := rfl
    rw [← q]
    cases hq : newAt a (m + 1) with
    | true => rw [List.filter_cons_of_pos hq]; rfl
    | false => rw [List.filter_cons_of_neg (by rw [hq]; decide)]; rfl
theorem mir_most (a : List Nat) : (mirL a).length ≤ a.length := by
  have h := mir_count a a.length (Nat.le_refl _)
  rw [List.take_length] at h
  rw [h]
  have := List.length_filter_le (newAt a) (List.range' 1 a.length)
  rwa [List.length_range'] at this
/-- full of mirrors -/
def fullB (a : List Nat) : Bool := decide ((mirL a).length = a.length)
theorem full_iff {a : List Nat} : fullB a = true ↔ ∀ e, 0 < e → e ≤ a.length → newAt a e = true := by
  unfold fullB
  rw [decide_eq_true_eq]
  have h := mir_count a a.length (Nat.le_refl _)
  rw [List.take_length] at h
  rw [h]
  have hl : (List.range' 1 a.length).length = a.length := List.length_range'
  constructor
  · intro q e e0 e1
    have : (List.range' 1 a.length).filter (newAt a) = List.range' 1 a.length := List.filter_sublist.eq_of_length (by omega)
    have hm : e ∈ (List.range' 1 a.length).filter (newAt a) := by
      rw [this, List.mem_range'_1]
      omega
    exact (List.mem_filter.mp hm).2
  · intro q
    rw [List.filter_eq_self.mpr fun e he => ?_, hl]
    have := List.mem_range'_1.mp he
    exact q e (by omega) (by omega)
theorem full_take {a : List Nat} (h : fullB a = true) (m : Nat) : fullB (a.take m) = true := by
  rw [full_iff] at h ⊢
  intro e e0 e1
  rw [List.length_take] at e1
  have := h e e0 (by omega)
  unfold newAt at this ⊢
  rwa [List.take_take, Nat.min_eq_left (by omega)]
theorem full_rev (a : List Nat) : fullB a.reverse = fullB a := by
  unfold fullB
  rw [mir_rev, List.length_reverse]
theorem full_part {a b : List Nat} (h : fullB a = true) (hi : infixB b a = true) : fullB b = true := by
  obtain ⟨x, y, rfl⟩ := infixB_iff.mp hi
  have h1 := full_take h (x.length + b.length)
  rw [List.take_left' (by simp)] at h1
  rw [← full_rev, List.reverse_append] at h1
  have h2 := full_take h1 b.reverse.length
  rw [List.take_left' rfl, full_rev] at h2
  exact h2
theorem lastAt_take {a : List Nat} {e : Nat} : lastAt (a.take e) e = lastAt a e := by
  unfold lastAt lastC
  rw [List.take_take, Nat.min_self]
theorem newAt_is {a : List Nat} {e : Nat} (h0 : 0 < e) (h : e ≤ a.length) : newAt a e = !infixB ((a.take e).drop (e - lastAt a e)) (a.take (e - 1)) := by
  have hl : (a.take e).length = e := by
    rw [List.length_take]
    omega
  unfold newAt newM lastW
  rw [hl, lastAt_take, List.take_take, Nat.min_eq_left (by omega)]
theorem lastAt_le {a : List Nat} {e : Nat} (h0 : 0 < e) (h : e ≤ a.length) : 0 < lastAt a e ∧ lastAt a e ≤ e := by
  have hl : (a.take e).length = e := by
    rw [List.length_take]
    omega
  have := lastAt_is (a := a.take e) (fun z => by rw [z] at hl; simp at hl; omega)
  rw [hl, lastAt_take] at this
  exact ⟨this.1, this.2.1⟩
/-! ### by reckoning -/
def partsC (a : List Nat) (L : List (List Nat)) : Bool := decide (L.Pairwise (· < ·)) && ((facs a).all (fun w => L.contains w) && L.all fun w => (facs a).contains w)
theorem parts_by {a : List Nat} {L : List (List Nat)} (h : partsC a L = true) : partsL a = L := by
  unfold partsC at h
  simp only [Bool.and_eq_true, decide_eq_true_eq, List.all_eq_true, List.contains_iff_mem] at h
  refine sortedW_ext (parts_lt a) h.1 fun w => ?_
  rw [mem_partsL, ← mem_facs]
  exact ⟨fun z => h.2.1 w z, fun z => h.2.2 w z⟩
def mirC (a : List Nat) (L : List (List Nat)) : Bool := decide (L.Pairwise (· < ·)) && ((facs a).all (fun w => !mirB w || L.contains w) && L.all fun w => mirB w && (facs a).contains w)
theorem mir_by {a : List Nat} {L : List (List Nat)} (h : mirC a L = true) : mirL a = L := by
  unfold mirC at h
  simp only [Bool.and_eq_true, decide_eq_true_eq, List.all_eq_true, List.contains_iff_mem, Bool.or_eq_true, Bool.not_eq_true'] at h
  refine sortedW_ext (mir_lt a) h.1 fun w => ?_
  rw [mem_mirL]
  constructor
  · rintro ⟨h1, h2⟩
    rcases h.2.1 w (mem_facs.mpr ⟨(mirB_iff.mp h2).1, h1⟩) with z | z
    · rw [z] at h2
      cases h2
    · exact z
  · intro z
    obtain ⟨h1, h2⟩ := h.2.2 w z
    exact ⟨(mem_facs.mp h2).2, h1⟩
end RD

/-! Words free of squares, by adding letters. -/
namespace RD
open PySem L2
/-- a square ends at the end -/
def endSq (w : List Nat) : Bool := (List.range' 1 (w.length / 2)).any fun h => perB (w.drop (w.length - 2 * h)) h
abbrev abc : List Nat := [97, 98, 99]
def freeW : Nat → List (List Nat)
  | 0 => [[]]
  | n + 1 => (freeW n).flatMap fun w => (abc.map fun c => w ++ [c]).filter fun v => !endSq v
def freeN : List Nat := [1, 3, 6, 12, 18, 30, 42, 60, 78, 108, 144, 204, 264]
theorem free_counts : (List.range 13).map (fun n => (freeW n).length) = freeN := by decide +kernel
theorem freeW_len {n : Nat} (h : n ≤ 12) : (freeW n).length = freeN.getD n 0 := by
  rw [← free_counts]
  rw [List.getD_eq_getElem?_getD, List.getElem?_map, List.getElem?_range (by omega)]
  rfl
theorem freeW_few {n : Nat} (h : n ≤ 12) : (freeW n).length ≤ 264 := by
  rw [freeW_len h]
  have : n = 0 ∨ n = 1 ∨ n = 2 ∨ n = 3 ∨ n = 4 ∨ n = 5 ∨ n = 6 ∨ n = 7 ∨ n = 8 ∨ n = 9 ∨ n = 10 ∨ n = 11 ∨ n = 12 := by omega
  rcases this with rfl | rfl | rfl | rfl | rfl | rfl | rfl | rfl | rfl | rfl | rfl | rfl | rfl <;> decide
theorem freeW_mem : ∀ {n : Nat} {w : List Nat}, w ∈ freeW n → w.length = n ∧ ∀ c ∈ w, c ∈ abc
  | 0, w, h => by
    have : w = [] := by simpa [freeW] using h
    subst this
    simp
  | n + 1, w, h => by
    simp only [freeW, List.mem_flatMap, List.mem_filter, List.mem_map] at h
    obtain ⟨v, hv, ⟨c, hc, rfl⟩, _⟩ := h
    obtain ⟨h1, h2⟩ := freeW_mem hv
    refine ⟨by simp [h1], fun x hx => ?_⟩
    rcases List.mem_append.mp hx with q | q
    · exact h2 x q
    · have : x = c := by simpa using q
      rw [this]
      exact hc
theorem freeW_word {n : Nat} {w : List Nat} (hn : n ≤ 12) (h : w ∈ freeW n) : wordB w = true := by
  obtain ⟨h1, h2⟩ := freeW_mem h
  refine wordB_mk (by omega) fun c hc => ?_
  have := h2 c hc
  simp at this
  rcases this with rfl | rfl | rfl <;> rfl
end RD

namespace RD
open PySem L2
/-! the mirrors at an end, and the list of the new ones (k05) -/
def palS (a : List Nat) (e : Nat) : List Nat := (List.range e).filter fun s => mirB ((a.take e).drop s)
def palL (a : List Nat) (e : Nat) : List (List Nat) := (palS a e).map fun s => (a.take e).drop s
theorem palS_down (a : List Nat) (e : Nat) : (palS a e).map (fun s => e - s) = lastC a e := by
  unfold palS lastC downL
  rw [List.filter_map]
  congr 1
  apply List.filter_congr
  intro s hs
  have := List.mem_range.mp hs
  simp only [Function.comp]
  rw [show e - (e - s) = s by omega]
theorem palS_head {a : List Nat} {e : Nat} (h0 : 0 < e) (h1 : e ≤ a.length) : ∃ t, palS a e = (e - lastAt a e) :: t ∧ ∀ s ∈ t, e - lastAt a e < s ∧ s < e ∧ mirB ((a.take e).drop s) = true := by
  obtain ⟨t, ht⟩ := lastC_head h0 h1
  have hd := palS_down a e
  rw [ht] at hd
  have hp : (palS a e).Pairwise (· < ·) := List.pairwise_lt_range.filter _
  have hm : ∀ s ∈ palS a e, s < e ∧ mirB ((a.take e).drop s) = true := fun s hs => by
    unfold palS at hs
    rw [List.mem_filter, List.mem_range] at hs
    exact hs
  cases hc : palS a e with
  | nil =>
    rw [hc] at hd
    cases hd
  | cons x u =>
    rw [hc] at hd hp hm
    injection hd with h2 h3
    have h2 : e - x = lastAt a e := h2
    have hx := (hm x List.mem_cons_self).1
    have ex : x = e - lastAt a e := by omega
    refine ⟨u, by rw [ex], fun s hs => ?_⟩
    have := (List.pairwise_cons.mp hp).1 s hs
    exact ⟨by omega, hm s (List.mem_cons_of_mem _ hs)⟩
theorem take_last {a : List Nat} {e : Nat} (h0 : 0 < e) (h1 : e ≤ a.length) : ∃ c, a.take e = a.take (e - 1) ++ [c] := by
  obtain ⟨e, rfl⟩ : ∃ m, e = m + 1 := ⟨e - 1, by omega⟩
  refine ⟨a[e]'(by omega), ?_⟩
  rw [Nat.add_sub_cancel, List.take_succ_eq_append_getElem (by omega)]
theorem lastW_take {a : List Nat} {e : Nat} (h1 : e ≤ a.length) : lastW (a.take e) = (a.take e).drop (e - lastAt a e) := by
  unfold lastW
  have : (a.take e).length = e := by rw [List.length_take]; omega
  rw [this, lastAt_take]
theorem palL_head {a : List Nat} {e : Nat} (h0 : 0 < e) (h1 : e ≤ a.length) : ∃ t, palL a e = lastW (a.take e) :: t ∧ ∀ w ∈ t, w ∈ mirL (a.take (e - 1)) := by
  obtain ⟨t, ht, hs⟩ := palS_head h0 h1
  refine ⟨t.map fun s => (a.take e).drop s, ?_, fun w hw => ?_⟩
  · unfold palL
    rw [ht, List.map_cons, lastW_take h1]
  · obtain ⟨s, hs', rfl⟩ := List.mem_map.mp hw
    obtain ⟨g1, g2, g3⟩ := hs s hs'
    obtain ⟨c, hc⟩ := take_last h0 h1
    have hi : infixB ((a.take e).drop s) (a.take (e - 1) ++ [c]) = true := by
      rw [← hc]
      exact infixB_iff.mpr ⟨(a.take e).take s, [], by rw [List.append_nil, List.take_append_drop]⟩
    rw [mem_mirL]
    refine ⟨?_, g3⟩
    rcases mir_app g3 hi with z | z
    · exact z
    · exfalso
      rw [← hc, lastW_take h1] at z
      have := congrArg List.length z
      have hla := lastAt_le h0 h1
      simp only [List.length_drop, List.length_take] at this
      omega
def newL (a : List Nat) (e : Nat) : List (List Nat) := ((List.range' 1 e).filter (newAt a)).map fun k => lastW (a.take k)
theorem newL_succ (a : List Nat) (e : Nat) : newL a (e + 1) = newL a e ++ (if newAt a (e + 1) = true then [lastW (a.take (e + 1))] else []) := by
  unfold newL
  rw [List.range'_1_concat, List.filter_append, List.map_append, Nat.add_comm 1 e]
  congr 1
  cases h : newAt a (e + 1) <;> simp [h]
theorem new_mem {a : List Nat} {e : Nat} (h : e + 1 ≤ a.length) : newAt a (e + 1) = !decide (lastW (a.take (e + 1)) ∈ mirL (a.take e)) := by
  rw [newAt_is (by omega) h, lastW_take h, Nat.add_sub_cancel]
  congr 1
  rw [Bool.eq_iff_iff, decide_eq_true_eq, mem_mirL]
  constructor
  · intro z
    refine ⟨z, ?_⟩
    rw [← lastW_take h]
    exact (lastAt_is (a := a.take (e + 1)) (fun z => by
      have := congrArg List.length z
      rw [List.length_take, List.length_nil] at this
      omega)).2.2.1
  · exact fun z => z.1
theorem newL_mem (a : List Nat) : ∀ e, e ≤ a.length → ∀ w, w ∈ newL a e ↔ w ∈ mirL (a.take e)
  | 0, _, w => by
    rw [List.take_zero, mir_nil]
    simp [newL]
  | e + 1, he, w => by
    have ih := newL_mem a e (by omega) w
    rw [newL_succ, List.mem_append, ih]
    obtain ⟨c, hc⟩ := take_last (a := a) (e := e + 1) (by omega) he
    rw [Nat.add_sub_cancel] at hc
    have hn : a.take (e + 1) ≠ [] := by rw [hc]; simp
    have hl := lastAt_is hn
    have hli : infixB (lastW (a.take (e + 1))) (a.take (e + 1)) = true := by
      rw [lastW_take he]
      exact infixB_iff.mpr ⟨(a.take (e + 1)).take (e + 1 - lastAt a (e + 1)), [], by rw [List.append_nil, List.take_append_drop]⟩
    have hup : w ∈ mirL (a.take e) → w ∈ mirL (a.take (e + 1)) := fun z => by
      rw [mem_mirL] at z ⊢
      refine ⟨infix_trans z.1 ?_, z.2⟩
      rw [hc]
      exact infixB_iff.mpr ⟨[], [c], rfl⟩
    rw [new_mem he]
    constructor
    · rintro (z | z)
      · exact hup z
      · split at z
        · have : w = lastW (a.take (e + 1)) := by simpa using z
          rw [this, mem_mirL]
          exact ⟨hli, hl.2.2.1⟩
        · cases z
    · intro z
      have z' := mem_mirL.mp z
      rw [hc] at z'
      rcases mir_app z'.2 z'.1 with y | y
      · exact .inl (mem_mirL.mpr ⟨y, z'.2⟩)
      · rw [← hc] at y
        by_cases hw : w ∈ mirL (a.take e)
        · exact .inl hw
        · refine .inr ?_
          rw [if_pos (by rw [← y]; simpa using hw), y]
          exact List.mem_cons_self
theorem newL_nodup (a : List Nat) : ∀ e, e ≤ a.length → (newL a e).Nodup
  | 0, _ => by simp [newL]
  | e + 1, he => by
    have ih := newL_nodup a e (by omega)
    rw [newL_succ]
    split
    · rename_i h
      rw [new_mem he] at h
      have h : lastW (a.take (e + 1)) ∉ mirL (a.take e) := by simpa using h
      rw [List.nodup_append]
      refine ⟨ih, by simp, fun x hx y hy => ?_⟩
      have : y = lastW (a.take (e + 1)) := by simpa using hy
      rw [this]
      intro z
      rw [z] at hx
      exact h ((newL_mem a e (by omega) _).mp hx)
    · rw [List.append_nil]
      exact ih
theorem newL_sort (a : List Nat) : (newL a a.length).mergeSort leW = mirL a :=
  sortW_ext (newL_nodup a a.length (Nat.le_refl _)) (mir_lt a) fun s => by
    have := newL_mem a a.length (Nat.le_refl _) s
    rwa [List.take_length] at this
theorem newL_len (a : List Nat) {e : Nat} (h : e ≤ a.length) : (newL a e).length = (mirL (a.take e)).length := by
  unfold newL
  rw [List.length_map, mir_count a e h]
end RD

/-! The data layer, part x: more of writers (their text, their comparison, their duplicates). -/
namespace RD
open PySem PySem.Spec PyProof.Rows L2
section
variable {X : Cx} {W : WX} {o e : Expr} {pos p : Pos} {C : Addr}
def strT (T : PTW) : PTW := fun w k ds Q _ => ds = [] ∧ T w k [] (fun d w' k' => ∃ z : Str, d = .str z ∧ Q (.str z) w' k') (fun _ _ _ => False)
theorem strT_mono {T : PTW} (h : MonoW T) : MonoW (strT T) := fun w k ds Q Q' E E' hq he ⟨h0, hh⟩ => ⟨h0, h _ _ _ _ _ _ _ (fun d w k ⟨z, h1, h3⟩ => ⟨z, h1, hq _ _ _ h3⟩) (fun _ _ _ z => z) hh⟩
theorem cr_strW {k : Nat} {f : Addr} {fd : FuncData} {sp : Sp} (hm : Meth X.K C "__str__" f) (F : FnOk X.prog X.w X.K X.mg X.base (L2N.CX X.prog X.w) k f fd ["self"] sp) (hb : Binds X.K fd ["self"] []) (hr : Room (k + 2) X.A) :
    CallR X (.type "str") (fun xs H Q => ∃ t dx fs, xs = [.ref t] ∧ H t = some (.ins C dx fs) ∧ sp [.ref t] H (fun v H' => ∃ z, v = .str z ∧ Q v H') (fun _ _ _ => False)) := by
  rintro pins s σ H xs us Q I r ⟨t, dx, fs, rfl, ht, want⟩
  obtain ⟨u, rfl, ru⟩ := vals1 r
  cases ru
  obtain ⟨mA, J, _⟩ := ins_get I.hok ht
  obtain ⟨od, J, _⟩ := J.look
  refine PySem.W.kso_call (hr.in1.in1.units0) I.kIn J hm.at_ hm.fn ?_
  have bd := hb s [.ref t] I.kIn rfl
  refine wpAny_call (codeAny_mono (F.run X.A.in1.in1 X.stack s H ⟨[.ref t], []⟩ [.ref t] [.ref t] _ _ hr.in1.in1 I.env0.in1.in1 bd (.cons rfl .nil) want) fun rr s' hq => ?_)
  cases rr with
  | error ee => exact passes_no pins σ H s ee s' I hq
  | ok fl =>
    cases fl with
    | ret v =>
      obtain ⟨z, H', I', rz, n, rfl, q⟩ := I.after hq
      obtain ⟨tk, rfl⟩ := rz
      exact ⟨.str n, H', I', ⟨_, rfl⟩, q⟩
    | next => exact hq.elim
    | brk => exact hq.elim
    | cont => exact hq.elim
theorem de_strW {i k : Nat} {T : PTW} (V : FnM X.prog X.w X.K X.mg X.base C "__str__" ["self"] k T) (hr : Room (k + 2) X.A) (hm : X.mg "str" = none) (ho : PE X o (tVar i)) (hg : Gl X "str" := by rfl) (hs : starEach [o] X.env = (false, eval o X.env) :: starEach [] X.env := by rfl) :
    DE X W (.Call (.Name "str" p) [o] [] pos) (wCallW C i (strT T) wNil) := by
  obtain ⟨f, fd, F, hM, hb⟩ := V.ex
  refine ⟨pe_imp (pe_callTy (cr_strW hM F hb hr) hg hm (by decide +kernel) (pa_cons ho pa_nil hs) (by decide) (by decide) hs rfl) fun σ H Q hh => ?_, wCallW_mono (strT_mono V.mono) wNil_mono⟩
  obtain ⟨B, G, F', δ, R, ⟨t0, w0, k0, e0⟩, t, w, k, e1, _, h2⟩ := hh
  obtain ⟨dx, q0, _, _, q4⟩ := R.wr e1
  refine ⟨_, q0, t, dx, _, rfl, q4, ?_⟩
  refine spWr_of V.mono R e1 .nil (V.mono _ _ _ _ _ _ _ (fun x w' k' z => ?_) (fun cc w' k' z => z.elim) h2)
  obtain ⟨n, rfl, z⟩ := z
  intro G' H' v g R' dv
  cases dv
  exact ⟨n, rfl, z G' H' _ g R' (.str _)⟩
end
end RD

namespace RD
open PySem L2
/-! turned words have one exponent; where a root stands in its power (k14, k03) -/
theorem root_conj_le {a b : List Nat} (ha : a ≠ []) (h : Conj a b) : rootN b ≤ rootN a := by
  have hp := root_pw ha
  have he := exp_pos ha
  have hl := rootL_len ha
  have hri := rootN_is ha
  obtain ⟨s, hs, hb⟩ := conj_pw (r := rootL a) (k := expN a) (b := b) he (by rw [← hp]; exact h)
  have hsl : s.length = rootN a := by rw [← conj_len hs, hl]
  have hbl := pw_len s (expN a)
  have hab := conj_len h
  rw [← hb] at hbl
  have hper : perB b s.length = true := by
    rw [hb]
    exact per_pow he
  rw [← hsl]
  refine rootN_le (by omega) (by omega) hper ?_
  rw [hbl, Nat.mul_mod_left]
theorem rootN_conj {a b : List Nat} (ha : a ≠ []) (h : Conj a b) : rootN b = rootN a :=
  Nat.le_antisymm (root_conj_le ha h) (root_conj_le (conj_ne ha h) (conj_symm h))
theorem exp_conj {a b : List Nat} (ha : a ≠ []) (h : Conj a b) : expN b = expN a := by
  unfold expN
  rw [rootN_conj ha h, conj_len h]
theorem exp_root {a : List Nat} (ha : a ≠ []) : expN (rootL a) = 1 := by
  have := (prim_root ha).pw_exp (k := 1) (by omega)
  rwa [pw_one] at this
theorem places_nat (a b : List Nat) : placesD a b = nats ((List.range a.length).filter fun i => decide ((a.take (i + b.length)).drop i = b)) := by
  unfold placesD nats
  rw [rng_filter, List.map_map]
  rfl
theorem pw_at (r : List Nat) (k i : Nat) (h : i < k) : ((pw r k).take (i * r.length + r.length)).drop (i * r.length) = r := by
  obtain ⟨j, rfl⟩ : ∃ j, k = i + (j + 1) := ⟨k - i - 1, by omega⟩
  rw [pw_add, pw_succ, ← pw_len r i, List.drop_take, List.drop_left, Nat.add_sub_cancel_left, List.take_left]
theorem places_pw {r : List Nat} {k : Nat} (hr : r ≠ []) : k ≤ (placesD (pw r k) r).length := by
  have h0 : 0 < r.length := List.length_pos_iff.mpr hr
  rw [places_nat]
  unfold nats
  rw [List.length_map]
  have h := subset_len (L := (List.range k).map fun i => i * r.length) (M := (List.range (pw r k).length).filter fun i => decide (((pw r k).take (i + r.length)).drop i = r)) (by
    refine List.pairwise_map.mpr (List.nodup_range.imp fun {x y} hne e => hne (Nat.eq_of_mul_eq_mul_right h0 e))) (by
    intro x hx
    obtain ⟨i, hi, rfl⟩ := List.mem_map.mp hx
    have hi := List.mem_range.mp hi
    rw [List.mem_filter, List.mem_range]
    refine ⟨?_, decide_eq_true (pw_at r k i hi)⟩
    rw [pw_len]
    exact Nat.mul_lt_mul_of_pos_right hi h0)
  rwa [List.length_map, List.length_range] at h
theorem piece_at {done : List (List Nat)} {p : List Nat} {rest : List (List Nat)} : (((done ++ p :: rest).flatten).take (done.flatten ++ p).length).drop ((done.flatten ++ p).length - p.length) = p := by
  have e : (done ++ p :: rest).flatten = (done.flatten ++ p) ++ rest.flatten := by simp
  rw [e, List.take_left, List.length_append, Nat.add_sub_cancel, List.drop_left]
theorem last_ge {a : List Nat} {e s : Nat} (h0 : 0 < s) (h1 : s ≤ e) (h2 : e ≤ a.length) (hm : mirB ((a.take e).drop (e - s)) = true) : s ≤ lastAt a e := by
  have hl : (a.take e).length = e := by rw [List.length_take]; omega
  have hne : a.take e ≠ [] := fun z => by
    rw [z] at hl
    simp at hl
    omega
  have h := (lastAt_is hne).2.2.2 s h0 (by omega) (by rw [hl]; exact hm)
  rw [hl, lastAt_take] at h
  exact h
theorem lastM_get {a : List Nat} {e : Nat} (h0 : 0 < e) (h1 : e ≤ a.length) : (nats (lastM a))[e - 1]? = some (.int (lastAt a e : Int)) := by
  unfold nats lastM
  rw [List.map_map, List.getElem?_map, List.getElem?_range' (by omega)]
  simp only [Option.map_some, Function.comp]
  rw [show 1 + 1 * (e - 1) = e by omega]
end RD

/-! The data layer, part y: writers duplicated, writers compared, defs that take the script, the town and a writer. -/
namespace RD
open PySem PySem.Spec PyProof.Rows L2
section
variable {X : Cx} {W : WX} {a b c e o : Expr} {es : List Expr} {pos p ps apos : Pos} {wa wb wc we : WE} {wr : WA} {st : Stmt} {C : Addr}
/-- self.kept = e -/
def wPutKp (C : Addr) (i : Nat) (w : WE) : WS := fun δ D => w δ (fun x δ' => ∃ z t w0 k, x = .int z ∧ δ'[i]? = some (.own (.wr t C w0 k)) ∧ D.nx (δ'.set i (.own (.wr t C w0 z)))) D.ex
theorem wPutKp_mono {i : Nat} (h : MonoE we) : MonoS (wPutKp C i we) := fun δ D D' l hh => h _ _ _ _ _ (fun x δ' ⟨z, t, w0, k, h1, h2, h3⟩ => ⟨z, t, w0, k, h1, h2, l.nx _ h3⟩) l.ex hh
theorem ds_putKp {i : Nat} (c : WCls X.K C) (h : DE X W e we) (ho : PE X o (tVar i)) (hs : swapsWith e (some (.Attribute o "kept" apos)) pos.line X.env = pure false := by rfl) : DSt X W (.Assign [.Attribute o "kept" apos] e pos) (wPutKp C i we) := by
  refine ⟨ps_imp (ps_fld ho h.pe hs) fun D σ H hh => ?_, wPutKp_mono h.mono⟩
  obtain ⟨B, G, F, δ, R, hh⟩ := hh
  refine ⟨B, G, F, δ, R, h.mono _ _ _ _ _ (fun x δ1 h1 => ?_) xL_of hh⟩
  intro G1 H1 v1 g1 R1 d1
  obtain ⟨z, t, w0, k, rfl, e1, h2⟩ := h1
  cases d1
  obtain ⟨dx, q1, _, _, q4⟩ := R1.wr e1
  refine ⟨_, q1, t, C, dx, _, rfl, q4, c.cl, c.nK, by show 2 < 1000; decide, ?_⟩
  rw [fld_putK]
  exact h2 G1 σ _ g1 (R1.mut e1 q1 ⟨rfl, dx, rfl⟩)
end
/-! ### duplicates -/
def spDup (C : Addr) : Sp := fun vs H Q _ => ∃ (t dx : Addr) (w : List Nat) (k : Nat), vs = [.ref t] ∧ H t = some (.ins C dx (fldW (St w) (k : Int))) ∧ w.length ≤ 1000 ∧
  ∀ H' x dx' dx2, Same (hide H t) H' → H x = none → H' t = some (.ins C dx' (fldW (St w) (k : Int))) → H' x = some (.ins C dx2 (fldW (St w) (w.length : Int))) → Q (.ref x) H'
structure FnU (P : Program) (w : World) (K : PySem.W.Frag) (mg : Str → Option Value) (base : Heap) (C : Addr) (k : Nat) : Prop where
  ex : ∃ f fd, FnOk P w K mg base (L2N.CX P w) k f fd ["self"] (spDup C) ∧ Meth K C "duplicate" f ∧ Binds K fd ["self"] []
section
variable {P : Program} {w : World} {K : PySem.W.Frag} {mg : Str → Option Value} {base : Heap}
theorem okU {x qual : Str} {st : Stmt} {f C : Addr} {fd : FuncData} {k : Nat} (F : Fun K x qual st f fd) (S : FnScope ["self", "other"] ["self"] (defScope st))
    (hb : ∀ (cdv : Value) (A : Around) (outer : List Env) (s : Shared) (H : Hp) (E : XK), Room k (A.deeper (PyProof.Rows.envOfC qual (defScope st) s.heap.objs.size f cdv)) →
      PSs (cxOf (L2N.CX P w) P w K mg base ["self", "other"] qual (defScope st) f cdv A outer s H E) (defBody st)
        (tSeq (tDS K (fun cls d _ H' => E cls d H') (wSetN 1 (wMake C))) (tSeq (tDS K (fun cls d _ H' => E cls d H') (wPutL C 1 (wFldL C 0))) (tSeq (tDS K (fun cls d _ H' => E cls d H') (wPutKp C 1 (wCallF lenD (wCons (wFldL C 0) wNil)))) (tRet (tVar 1)))))) :
    FnOk P w K mg base (L2N.CX P w) (k + 1) f fd ["self"] (spDup C) := by
  obtain ⟨oc, od, kV, doc, pm, an, cdv, ct, osl, rfl, lk, hcd⟩ := F.ex
  refine fn_of lk hcd S (fun vs H Q E h => ?_) fun A outer s H vs Q E hr hsp => ?_
  · obtain ⟨t, dx, w, k, rfl, _⟩ := h
    rfl
  · obtain ⟨t, dx, w, kk, rfl, ht, hl, q⟩ := hsp
    refine ⟨_, hb cdv A outer s H E hr, ?_⟩
    have sm : Same (fun _ => none : Hp) (hide H t) := fun a o z => nomatch z
    have R0 := startW_rel (K := K) (N := ["self", "other"]) (vs := []) (ds := []) sm ht .nil (by decide)
    refine ⟨_, _, _, _, R0, fun b => ?_⟩
    intro G1 σ1 H1 g1 R1
    refine ⟨_, _, _, _, R1, t, St w, (kk : Int), rfl, _, b, _, _, rfl, rfl, ?_⟩
    intro G2 σ2 H2 g2 R2
    refine ⟨_, _, _, _, R2, t, St w, (kk : Int), rfl, _, len_S (by omega), _, b, _, _, rfl, rfl, ?_⟩
    intro G3 σ3 H3 g3 R3
    obtain ⟨dx', q1, _, n1, h1⟩ := R3.wr (i := 0) (t := t) (C := C) (w := St w) (k := (kk : Int)) rfl
    obtain ⟨dx2, q2, _, n2, h2⟩ := R3.wr (i := 1) (t := b) (C := C) (w := St w) (k := (w.length : Int)) rfl
    have hne : b ≠ t := fun z => by
      subst z
      exact R3.sep 0 1 _ _ b (by decide) rfl rfl q1 q2
    refine ⟨_, q2, q H3 b dx' dx2 R3.f ?_ h1 h2⟩
    rw [hide_ne hne] at n2
    exact n2
end
def wDup (C : Addr) (i : Nat) : WN := fun δ Q _ => ∃ t w k, δ[i]? = some (wrS t C w k) ∧ w.length ≤ 1000 ∧ ∀ x, Q (.wr x C (St w) (w.length : Int)) δ
section
variable {X : Cx} {W : WX} {a b c e o : Expr} {es : List Expr} {pos p ps apos : Pos} {C : Addr}
theorem dn_dup {i k : Nat} {pl : Sem Bool} (c : WCls X.K C) (V : FnU X.prog X.w X.K X.mg X.base C k) (hr : Room k X.A) (ho : PE X o (tVar i))
    (ht : eval (.Call (.Attribute o "duplicate" apos) [] [] pos) X.env = (do let ov ← eval o X.env; standAt apos.atName; let (g, fst) ← holding [ov] (getMethod ov "duplicate" pl); callWith pos g fst (backTo pos (starEach [] X.env)) (backToKw pos (keywordEach [] X.env))) := by rfl) :
    DN X W (.Call (.Attribute o "duplicate" apos) [] [] pos) (wDup C i) := by
  obtain ⟨f, fd, F, hm, hb⟩ := V.ex
  refine ⟨pe_imp (pe_methA0 (E := fun _ _ _ _ => False) ho c.cl hm F hr hb (fun σ pins H s e s' I c => passes_no pins σ H s e s' I c) ht) fun σ H Q hh => ?_, fun δ Q Q' E E' hq _ ⟨t, w, k, h1, h2, h3⟩ => ⟨t, w, k, h1, h2, fun x => hq _ _ (h3 x)⟩⟩
  obtain ⟨B, G, F', δ, R, t, w, k, e0, hl, h⟩ := hh
  obtain ⟨dx0, q0, n1, n2, q4⟩ := R.wr e0
  refine ⟨_, q0, t, dx0, _, rfl, q4, fld_no _ _ (by decide +kernel) (by decide +kernel), t, dx0, w, k, rfl, q4, hl, ?_⟩
  intro H' x dx' dx2 sH hx h1 h2
  obtain ⟨R', _⟩ := R.own1 e0 q0 (Gr.refl _ G) sH ((same_hide R.g n1).trans sH) n1 h1 (k' := .wr t C (St w) (k : Int)) ⟨rfl, dx', rfl⟩
  rw [set_same e0] at R'
  obtain ⟨f1, f2⟩ := R.fresh hx
  exact h x G H' x _ (Gr.refl F' G) R' f1 f2 (R.loose hx) h2 ⟨rfl, dx2, rfl⟩
end
/-! ### writers compared -/
structure EqC (K : PySem.W.Frag) (C : Addr) : Prop where
  ic : C8.InsC K C
  ks : PySem.W.kitOne K (.type "str") (.ref C) = some false
  kn : PySem.W.kitOne K (.type "NoneType") (.ref C) = some false
  ns : PySem.W.notFirst K C (.type "str") = true
  nn : PySem.W.notFirst K C (.type "NoneType") = true
def spEqW (C : Addr) : Sp := fun vs H Q _ => ∃ (t dx : Addr) (z : Str) (k : Int) (v : V), vs = [.ref t, v] ∧ H t = some (.ins C dx (fldW z k)) ∧
  ((∃ (u dx' : Addr) (z' : Str) (k' : Int), v = .ref u ∧ H u = some (.ins C dx' (fldW z' k')) ∧ Q (.bl (decide (z = z'))) H) ∨ ((v = .non ∨ ∃ y, v = .str y) ∧ Q (.bl false) H))
structure FnQ (P : Program) (w : World) (K : PySem.W.Frag) (mg : Str → Option Value) (base : Heap) (C : Addr) (k : Nat) : Prop where
  ex : ∃ f fd, FnOk P w K mg base (L2N.CX P w) k f fd ["self", "other"] (spEqW C) ∧ Meth K C "__eq__" f ∧ Binds K fd ["self", "other"] []
  eq : EqC K C
section
variable {P : Program} {w : World} {K : PySem.W.Frag} {mg : Str → Option Value} {base : Heap}
theorem okQ {x qual : Str} {st : Stmt} {f C : Addr} {fd : FuncData} {k : Nat} (F : Fun K x qual st f fd) (S : FnScope ["self", "other"] ["self", "other"] (defScope st)) (c : WCls K C) (q : EqC K C)
    (hb : ∀ (cdv : Value) (A : Around) (outer : List Env) (s : Shared) (H : Hp) (E : XK), Room k (A.deeper (PyProof.Rows.envOfC qual (defScope st) s.heap.objs.size f cdv)) →
      PSs (cxOf (L2N.CX P w) P w K mg base ["self", "other"] qual (defScope st) f cdv A outer s H E) (defBody st)
        (tRet (tAndV (tCB (rIsi K) (tCons (tVar 1) (tCons (tC (.ref C)) tNil))) (tOp rEq (tFld K (tVar 0) "letters") (tFld K (tVar 1) "letters"))))) :
    FnOk P w K mg base (L2N.CX P w) (k + 1) f fd ["self", "other"] (spEqW C) := by
  obtain ⟨oc, od, kV, doc, pm, an, cdv, ct, osl, rfl, lk, hcd⟩ := F.ex
  refine fn_of lk hcd S (fun vs H Q E h => ?_) fun A outer s H vs Q E hr hsp => ?_
  · obtain ⟨t, dx, z, k, v, rfl, _⟩ := h
    rfl
  · obtain ⟨t, dx, z, kk, v, rfl, ht, hh⟩ := hsp
    refine ⟨_, hb cdv A outer s H E hr, ?_⟩
    rcases hh with ⟨u, dx', z', k', rfl, hu, hq⟩ | ⟨hv, hq⟩
    · refine ⟨_, rfl, _, _, _, _, true, rfl, .own C, .base (.ins hu c.cl q.ic.ha q.ic.hn q.ic.htk q.ic.hm), q.ic.me, true, rfl, ?_⟩
      refine ⟨_, rfl, t, C, dx, _, _, rfl, ht, c.cl, c.nL, fld_l z kk, _, rfl, u, C, dx', _, _, rfl, hu, c.cl, c.nL, fld_l z' k', rfl, ?_⟩
      have e : decide (V.str z = V.str z') = decide (z = z') := decide_eq_decide.mpr ⟨fun h => by injection h, fun h => by rw [h]⟩
      rw [e]
      exact hq
    · rcases hv with rfl | ⟨y, rfl⟩
      · exact ⟨_, rfl, _, _, _, _, false, rfl, .own C, .base .non, q.kn, false, rfl, hq⟩
      · exact ⟨_, rfl, _, _, _, _, false, rfl, .own C, .base (.str y), q.ks, false, rfl, hq⟩
end
section
variable {X : Cx} {W : WX} {a b c e o : Expr} {es : List Expr} {pos p ps apos : Pos} {C : Addr}
theorem op_eqW {k : Nat} (V : FnQ X.prog X.w X.K X.mg X.base C k) (hr : Room k X.A) : OpR X (compareOp .Eq) (fun x y H Q => spEqW C [x, y] H Q (fun _ _ _ => False)) := by
  intro pins s σ H x y v u Q I rx ry h
  obtain ⟨f, fd, F, hm, hb⟩ := V.ex
  have h0 := h
  obtain ⟨t, dx, z, kk, v', ev, ht, hh⟩ := h
  injection ev with e1 e2
  injection e2 with e2
  subst e1 e2
  cases (show v = Value.ref t from rx)
  obtain ⟨mA, J, _⟩ := ins_get I.hok ht
  obtain ⟨od, J, _⟩ := J.look
  obtain ⟨m, hF⟩ := I.fr
  show wpAny _ _ (richCompare .Eq _ _) _ _ _
  have fin : wpAny (model X.prog X.w) X.A (call (.ref f) [.ref t, u]) (PySem.W.CmpBack (EP X pins σ Q)) X.xe s := by
    have bd := hb s [.ref t, u] I.kIn rfl
    refine wpAny_call (codeAny_mono (F.run X.A X.stack s H ⟨[.ref t, u], []⟩ [.ref t, u] [.ref t, y] _ _ hr I.env0 bd (.cons rfl (.cons ry .nil)) h0) fun rr s' hq => ?_)
    cases rr with
    | error ee => exact passes_no pins σ H s ee s' I hq
    | ok fl =>
      cases fl with
      | ret v =>
        obtain ⟨z', H', I', rz, q⟩ := I.after hq
        exact SlX.cmpback rz ⟨z', H', I', rz, q⟩
      | next => exact hq.elim
      | brk => exact hq.elim
      | cont => exact hq.elim
  rcases hh with ⟨u', dx', z', k', rfl, hu, hq⟩ | ⟨hv, hq⟩
  · cases (show u = Value.ref u' from ry)
    obtain ⟨mB, J', _⟩ := ins_get I.hok hu
    obtain ⟨od', J', _⟩ := J'.look
    exact PySem.W.cmp_K (op := .Eq) (tb := .ref C) hr.units0 hF I.ok.mod.kin J J'.type (by simp [PySem.W.notFirst]) hm.at_ hm.fn fin
  · rcases hv with rfl | ⟨y', rfl⟩
    · cases (show u = Value.none from ry)
      exact PySem.W.cmp_K (op := .Eq) (tb := .type "NoneType") hr.units0 hF I.ok.mod.kin J (PySem.W.Looks.of_pure rfl) V.eq.nn hm.at_ hm.fn fin
    · obtain ⟨t', rfl⟩ := ry
      exact PySem.W.cmp_K (op := .Eq) (tb := .type "str") hr.units0 hF I.ok.mod.kin J (PySem.W.Looks.of_pure rfl) V.eq.ns hm.at_ hm.fn fin
/-- two writers -/
def wEqWW (C : Addr) (i j : Nat) : WE := fun δ Q _ => ∃ t w k u w' k', δ[i]? = some (wrS t C w k) ∧ δ[j]? = some (wrS u C w' k') ∧ Q (.bool (decide (w = w'))) δ
theorem wEqWW_mono {i j : Nat} : MonoE (wEqWW C i j) := fun δ Q Q' E E' hq _ ⟨t, w, k, u, w', k', h1, h2, h3⟩ => ⟨t, w, k, u, w', k', h1, h2, hq _ _ h3⟩
theorem eqWW_of {i j : Nat} {B G F : Hp} {δ : DS} {σ : L2.St} {H : Hp} {K : PySem.W.Frag} {Q : VK} {E : XC} (R : Rel K B G F δ σ H) (h : wEqWW C i j δ (fun x δ' => ∀ G' H' v, Gr F G G' → Rel K B G' F δ' σ H' → Dq G' v x → Q v H') E) : tOp (fun x y H Q => spEqW C [x, y] H Q (fun _ _ _ => False)) (tVar i) (tVar j) σ H Q := by
  obtain ⟨t, w, k, u, w', k', e1, e2, h⟩ := h
  obtain ⟨dx, q1, _, _, q4⟩ := R.wr e1
  obtain ⟨dx', r1, _, _, r4⟩ := R.wr e2
  refine ⟨_, q1, _, r1, t, dx, _, _, _, rfl, q4, .inl ⟨u, dx', _, _, rfl, r4, ?_⟩⟩
  have e : decide (St w = St w') = decide (w = w') := decide_eq_decide.mpr St_inj
  rw [e]
  exact h G H _ (Gr.refl F G) R (.bl _)
theorem de_eqWW {i j k : Nat} (V : FnQ X.prog X.w X.K X.mg X.base C k) (hr : Room k X.A) (ha : PE X a (tVar i)) (hb : PE X b (tVar j)) : DE X W (.Compare a [.Eq] [b] pos) (wEqWW C i j) :=
  ⟨pe_imp (pe_cmpR (op_eqW V hr) ha hb (nomark _)) fun σ H Q hh => by
    obtain ⟨B, G, F, δ, R, h⟩ := hh
    exact eqWW_of R h, wEqWW_mono⟩
theorem dt_eqWW {i j k : Nat} (V : FnQ X.prog X.w X.K X.mg X.base C k) (hr : Room k X.A) (ha : PE X a (tVar i)) (hb : PE X b (tVar j)) : DT X W (.Compare a [.Eq] [b] pos) (wB (wEqWW C i j)) :=
  ⟨pt_imp (pt_cmpR (op_eqW V hr) ha hb (nomark _)) fun σ H Q hh => by
    obtain ⟨B, G, F, δ, R, h⟩ := hh
    refine eqWW_of R (wEqWW_mono _ _ _ _ _ (fun x δ' z => ?_) (fun _ _ z => z) h)
    obtain ⟨c, rfl, z⟩ := z
    intro G' H' v g R' d
    cases d
    exact ⟨c, rfl, z G' H' g R'⟩, wB_mono wEqWW_mono⟩
end
/-! ### defs that take the script, the town and a writer -/
abbrev PTX := List Int → List PyData → List Nat → Nat → List PyData → (PyData → List PyData → List Nat → Nat → Prop) → Prop
def MonoX (T : PTX) : Prop := ∀ ns zs w k ds Q Q', (∀ d z w k, Q d z w k → Q' d z w k) → T ns zs w k ds Q → T ns zs w k ds Q'
def spX (K : PySem.W.Frag) (C : Addr) (T : PTX) : Sp := fun vs H Q _ => ∃ (G : Hp) (a t u : Addr) (ns : List Int) (tv : List V) (zs : List PyData) (w : List Nat) (k : Nat) (dx : Addr) (vs' : List V) (ds : List PyData), vs = .ref a :: .ref t :: .ref u :: vs' ∧ t ≠ u ∧ SqL K (hide (hide H t) u) a (ns.map V.int) ∧ Same G (hide (hide H t) u) ∧ H t = some (.lst tv) ∧ H u = some (.ins C dx (fldW (St w) (k : Int))) ∧ DqAll G tv zs ∧ DqAll G vs' ds ∧
  T ns zs w k ds (fun d zs' w' k' => ∀ G' H' v tv' dx', Gr (hide (hide H t) u) G G' → Same (hide (hide H t) u) H' → Same G' H' → G' t = none → G' u = none → H' t = some (.lst tv') → H' u = some (.ins C dx' (fldW (St w') (k' : Int))) → DqAll G' tv' zs' → Dq G' v d → Q v H')
structure FnX (P : Program) (w : World) (K : PySem.W.Frag) (mg : Str → Option Value) (base : Heap) (C : Addr) (x : Str) (ps : List Str) (k : Nat) (T : PTX) : Prop where
  ex : ∃ f fd, FnOk P w K mg base (L2N.CX P w) k f fd ps (spX K C T) ∧ mg x = some (.ref f) ∧ PySem.W.keepIn K (.ref f) = true ∧ Binds K fd ps []
  mono : MonoX T
def wCallX (C : Addr) (i j l : Nat) (T : PTX) (w : WA) : WE := fun δ Q E => (∃ ns, δ[i]? = some (.scr ns)) ∧ (∃ k zs, δ[j]? = some (.own k) ∧ twn? k = some zs) ∧ (∃ t w k, δ[l]? = some (wrS t C w k)) ∧
  w δ (fun ds δ' => ∃ ns k zs t w kk, δ'[i]? = some (.scr ns) ∧ δ'[j]? = some (.own k) ∧ twn? k = some zs ∧ δ'[l]? = some (wrS t C w kk) ∧ T ns zs w kk ds (fun d zs' w' kk' => Q d ((δ'.set l (wrS t C w' kk')).set j (.own (twnSet k zs'))))) E
section
variable {X : Cx} {W : WX} {a b c e o : Expr} {es : List Expr} {pos p ps apos : Pos} {C : Addr} {wr : WA}
theorem wCallX_mono {i j l : Nat} {T : PTX} (hT : MonoX T) (h : MonoE wr) : MonoE (wCallX C i j l T wr) := fun δ Q Q' E E' hq he ⟨h0, h1, h2, hz⟩ => ⟨h0, h1, h2, h _ _ _ _ _ (fun ds δ' ⟨ns, k, zs, t, w, kk, z1, z2, z3, z4, z5⟩ => ⟨ns, k, zs, t, w, kk, z1, z2, z3, z4, hT _ _ _ _ _ _ _ (fun d z w k q => hq _ _ q) z5⟩) he hz⟩
theorem de_callX {x : Str} {i j l : Nat} {qs : List Str} {k : Nat} {T : PTX} (V : FnX X.prog X.w X.K X.mg X.base C x qs k T) (tk : L2N.Takes X W) (hr : Room k X.A) (ho : PE X a (tVar i)) (ho2 : PE X b (tVar j)) (ho3 : PE X c (tVar l)) (ha : DA X W es wr) (hg : Gl X x := by rfl) (hdb : (x == ("__debug__" : Str)) = false := by decide)
    (hs : starEach (a :: b :: c :: es) X.env = (false, eval a X.env) :: starEach (b :: c :: es) X.env := by rfl) (hs2 : starEach (b :: c :: es) X.env = (false, eval b X.env) :: starEach (c :: es) X.env := by rfl) (hs3 : starEach (c :: es) X.env = (false, eval c X.env) :: starEach es X.env := by rfl) (hp : (backTo pos (starEach (b :: c :: es) X.env)).any (·.1) = false := by rfl) :
    DE X W (.Call (.Name x p) (a :: b :: c :: es) [] pos) (wCallX C i j l T wr) := by
  obtain ⟨f, fd, F, hm, hk, hb⟩ := V.ex
  refine ⟨pe_imp (pe_callS F hr hg hm hk hb (fun σ => L2N.passAt tk σ) (pa_cons ho (pa_cons ho2 (pa_cons ho3 ha.pa hs3) hs2) hs) hdb hs hp) fun σ H Q hh => ?_, wCallX_mono V.mono ha.mono⟩
  obtain ⟨B, G, F', δ, R, ⟨ns, e⟩, ⟨k0, zs, et, _⟩, ⟨t0, w0, kk0, ew⟩, h⟩ := hh
  obtain ⟨a', e1, e2⟩ := R.slot i _ e
  obtain ⟨t, ob, e3, _, _, _, _⟩ := R.own et
  obtain ⟨dx0, q0, _⟩ := R.wr ew
  refine ⟨_, e1, _, e3, _, q0, B, G, F', δ, R, ha.mono _ _ _ _ _ (fun ds δ1 h1 => ?_) (fun _ _ z => z) h⟩
  intro G1 H1 vs g1 R1 d1
  obtain ⟨ns', k1, zs', u, w1, kk1, e', et', ez', ew', tt⟩ := h1
  obtain ⟨a'', e4, e5⟩ := R1.slot i _ e'
  rw [e1] at e4
  cases e4
  obtain ⟨t', ob', e6, nG, nF, hH, ho⟩ := R1.own et'
  obtain ⟨tv, rfl, dv⟩ := own_twn ho ez'
  rw [e3] at e6
  cases e6
  obtain ⟨dx1, q1, mG, mF, hW⟩ := R1.wr ew'
  rw [q0] at q1
  cases q1
  have hjl : j ≠ l := fun z => by
    subst z
    rw [et'] at ew'
    cases ew'
    cases ez'
  have htu : t ≠ t0 := fun z => by
    subst z
    exact R1.sep j l _ _ t hjl et' ew' e3 q0
  have sB : Same F' (hide (hide H1 t) t0) := same_hide (same_hide R1.f nF) mF
  refine ⟨G1, _, t, t0, ns', tv, zs', w1, kk1, dx1, vs, ds, rfl, htu, (R1.b.trans sB).seq e5, same_hide (same_hide R1.g nG) mG, hH, hW, dv, d1, V.mono _ _ _ _ _ _ _ (fun d z w2 k2 q => ?_) tt⟩
  intro G2 H2 v tv' dx' g2 h2 gh n2 m2 ht2 hw2 dt2 d2
  have R2 := R1.mut (k' := .wr t0 C (St w2) (k2 : Int)) ew' q0 (o' := .ins C dx' (fldW (St w2) (k2 : Int))) ⟨rfl, dx', rfl⟩
  have et2 : (δ1.set l (wrS t0 C w2 k2))[j]? = some (.own k1) := by rw [List.getElem?_set_ne (Ne.symm hjl)]; exact et'
  have hh : ∀ a, a ≠ t0 → hide (upd H1 t0 (.ins C dx' (fldW (St w2) (k2 : Int)))) t a = hide (hide H1 t) t0 a := fun a ha => by
    rw [hide_ne ha]
    unfold hide
    split
    · rfl
    · exact upd_ne ha
  obtain ⟨R3, gr⟩ := R2.town et2 ez' e3 (G' := G2) (H' := H2) (zs' := z) (tv' := tv') ⟨g2.g, fun a h3 h4 => by
    by_cases ha : a = t0
    · rw [ha]
      exact m2
    · rw [hh a ha] at h3
      exact g2.n a h3 h4⟩ (fun a o h3 => by
    by_cases ha : a = t0
    · subst ha
      rw [hide_ne (Ne.symm htu), upd_same] at h3
      rw [hw2]
      exact h3
    · rw [hh a ha] at h3
      exact h2 a o h3) gh n2 ht2 dt2
  exact q G2 H2 v (g1.trans gr) R3 d2
end
section
variable {P : Program} {w : World} {K : PySem.W.Frag} {mg : Str → Option Value} {base : Heap}
theorem startX_rel {G H : Hp} {N : List Str} {a t u C dx : Addr} {ns : List Int} {tv vs : List V} {zs ds : List PyData} {ww : List Nat} {kk : Nat} (htu : t ≠ u) (sq : SqL K (hide (hide H t) u) a (ns.map V.int)) (s : Same G (hide (hide H t) u)) (ht : H t = some (.lst tv)) (hu : H u = some (.ins C dx (fldW (St ww) (kk : Int)))) (dt : DqAll G tv zs) (h : DqAll G vs ds) (hl : vs.length + 3 ≤ N.length) :
    Rel K (hide (hide H t) u) G (hide (hide H t) u) (.scr ns :: .own (.tw t zs) :: wrS u C ww kk :: startD (N.length - 3) ds) (L2.start N (.ref a :: .ref t :: .ref u :: vs)) H := by
  match N, hl with
  | x :: y :: y2 :: N, hl =>
    have R := start_rel (K := K) (N := N) s h (by simpa using hl)
    have es : L2.start (x :: y :: y2 :: N) (.ref a :: .ref t :: .ref u :: vs) = some (.ref a) :: some (.ref t) :: some (.ref u) :: L2.start N vs := by
      unfold L2.start
      simp
    rw [es]
    have hst : hide (hide H t) u t = none := by rw [hide_ne htu]; exact hide_self
    have nT : G t = none := s.free hst
    have nU : G u = none := s.free hide_self
    have nn : ∀ (i : Nat) (u' : SD), (startD N.length ds)[i]? = some u' → u' = .no ∨ ∃ d, u' = .d d := fun i u' e' => by
      unfold startD at e'
      by_cases hi : i < ds.length
      · rw [List.getElem?_append_left (by simpa using hi), List.getElem?_map] at e'
        cases q : ds[i]? with
        | none =>
          rw [q] at e'
          cases e'
        | some d =>
          rw [q] at e'
          cases e'
          exact .inr ⟨d, rfl⟩
      · rw [List.getElem?_append_right (by simp; omega), List.getElem?_replicate] at e'
        split at e'
        · cases e'
          exact .inl rfl
        · cases e'
    refine ⟨Same.refl _, (s.trans hide_same).trans hide_same, hide_same.trans hide_same, by simp [R.len], fun i v e => ?_, fun i j k l p hne e1 e2 e3 e4 => ?_⟩
    · match i, e with
      | 0, e =>
        cases e
        exact ⟨a, rfl, sq⟩
      | 1, e =>
        cases e
        exact ⟨t, _, rfl, nT, hst, ht, rfl, tv, rfl, dt⟩
      | 2, e =>
        cases e
        exact ⟨u, _, rfl, nU, hide_self, hu, rfl, dx, rfl⟩
      | i + 3, e =>
        have z := R.slot i v e
        rcases nn i v e with rfl | ⟨d, rfl⟩
        · trivial
        · exact z
    · have n0 : ∀ (i : Nat) (k : OK) (p : Addr), (SD.scr ns :: SD.own (.tw t zs) :: wrS u C ww kk :: startD N.length ds)[i]? = some (.own k) → (some (V.ref a) :: some (V.ref t) :: some (V.ref u) :: L2.start N vs)[i]? = some (some (V.ref p)) → (i = 1 ∧ p = t) ∨ (i = 2 ∧ p = u) := fun i k p e' e'' => by
        match i, e', e'' with
        | 0, e', _ => cases e'
        | 1, _, e'' =>
          cases e''
          exact .inl ⟨rfl, rfl⟩
        | 2, _, e'' =>
          cases e''
          exact .inr ⟨rfl, rfl⟩
        | i + 3, e', _ =>
          rcases nn i _ e' with z | ⟨d, z⟩ <;> cases z
      rcases n0 i k p e1 e3 with ⟨rfl, z1⟩ | ⟨rfl, z1⟩ <;> rcases n0 j l p e2 e4 with ⟨rfl, z2⟩ | ⟨rfl, z2⟩
      · exact hne rfl
      · exact htu (z1.symm.trans z2)
      · exact htu (z2.symm.trans z1)
      · exact hne rfl
def endsX (t u C : Addr) (Q : PyData → List PyData → List Nat → Nat → Prop) : WEnds := { nx := fun _ => False, rt := fun x δ => ∃ zs w k, δ[1]? = some (.own (.tw t zs)) ∧ δ[2]? = some (wrS u C w k) ∧ Q x zs w k, bk := fun _ => False, ct := fun _ => False, ex := fun _ _ => False }
theorem okX {x qual : Str} {st : Stmt} {f C : Addr} {fd : FuncData} {N qs : List Str} {k : Nat} {T : PTX} {b : WS} (F : Fun K x qual st f fd) (S : FnScope N qs (defScope st)) (hb : ∀ (cdv : Value) (A : Around) (outer : List Env) (s : Shared) (H : Hp) (E : XK), Room k (A.deeper (PyProof.Rows.envOfC qual (defScope st) s.heap.objs.size f cdv)) →
      DSs (cxOf (L2N.CX P w) P w K mg base N qual (defScope st) f cdv A outer s H E) (fun cls d _ H' => E cls d H') (defBody st) b) (hN : qs.length ≤ N.length)
    (hw : ∀ t u ns zs w k ds Q, T ns zs w k ds Q → ds.length + 3 = qs.length ∧ b (.scr ns :: .own (.tw t zs) :: wrS u C w k :: startD (N.length - 3) ds) (endsX t u C Q)) : FnOk P w K mg base (L2N.CX P w) (k + 1) f fd qs (spX K C T) := by
  obtain ⟨oc, od, kV, doc, pm, an, cdv, ct, osl, rfl, lk, hcd⟩ := F.ex
  refine fn_of lk hcd S (fun vs H Q E h => ?_) fun A outer s H vs Q E hr hsp => ?_
  · obtain ⟨G, a, t, u, ns, tv, zs, w, k, dx, vs', ds, rfl, htu, sq, sm, ht, hu, dt, d, tt⟩ := h
    have := (hw t u _ _ _ _ _ _ tt).1
    have := dpAll_len d
    simp
    omega
  · obtain ⟨G, a, t, u, ns, tv, zs, w, k, dx, vs', ds, rfl, htu, sq, sm, ht, hu, dt, d, tt⟩ := hsp
    obtain ⟨hl, hbb⟩ := hw t u _ _ _ _ _ _ tt
    refine ⟨_, (hb cdv A outer s H E hr).ps, _, G, _, _, startX_rel htu sq sm ht hu dt d (by rw [dpAll_len d]; omega), (hb cdv A outer s H E hr).mono _ (endsX t u C _) _ ⟨fun δ z => False.elim z, fun v δ z => ?_, fun _ z => False.elim z, fun _ z => False.elim z, fun cc δ z => False.elim z⟩ hbb⟩
    intro G' σ' H' v' g R du
    obtain ⟨zs', w', k', e1, e2, q⟩ := z
    obtain ⟨p, ob, e3, n1, n2, h4, rfl, vs2, rfl, dv⟩ := R.own e1
    obtain ⟨dx', e4, m1, m2, h5⟩ := R.wr e2
    exact q G' H' v' vs2 dx' g R.f R.g n1 m1 h4 h5 dv du
end
/-! steps -/
section
variable {δ : DS} {Q : PyData → DS → Prop} {QN : OK → DS → Prop} {E : XC} {i j l : Nat} {C t u : Addr} {w w' : List Nat} {k k' : Nat} {wr : WA} {T : PTX} {ns : List Int} {ok : OK} {zs : List PyData}
theorem u_eqWW0 (h : wEqWW C i j δ Q E) : wEqWW C i j δ Q E := h
theorem e_eqWW (h1 : δ[i]? = some (wrS t C w k)) (h2 : δ[j]? = some (wrS u C w' k')) (q : Q (.bool (decide (w = w'))) δ) : wEqWW C i j δ Q E := ⟨t, w, k, u, w', k', h1, h2, q⟩
theorem e_dup (h1 : δ[i]? = some (wrS t C w k)) (hl : w.length ≤ 1000) (q : ∀ x, QN (.wr x C (St w) (w.length : Int)) δ) : wDup C i δ QN E := ⟨t, w, k, h1, hl, q⟩
theorem u_callX0 (h : wCallX C i j l T wr δ Q E) : wCallX C i j l T wr δ Q E := h
theorem u_callX (h0 : δ[i]? = some (.scr ns)) (h1 : δ[j]? = some (.own ok)) (h2 : twn? ok = some zs) (h3 : δ[l]? = some (wrS t C w k)) (h : wr δ (fun ds δ' => ∃ ns k zs t w kk, δ'[i]? = some (.scr ns) ∧ δ'[j]? = some (.own k) ∧ twn? k = some zs ∧ δ'[l]? = some (wrS t C w kk) ∧ T ns zs w kk ds (fun d zs' w' kk' => Q d ((δ'.set l (wrS t C w' kk')).set j (.own (twnSet k zs'))))) E) : wCallX C i j l T wr δ Q E := ⟨⟨ns, h0⟩, ⟨ok, zs, h1, h2⟩, ⟨t, w, k, h3⟩, h⟩
theorem e_callX0 {P : List Int → OK → List PyData → Addr → List Nat → Nat → Prop} (h : ∃ ns k zs t w kk, δ[i]? = some (.scr ns) ∧ δ[j]? = some (.own k) ∧ twn? k = some zs ∧ δ[l]? = some (wrS t C w kk) ∧ P ns k zs t w kk) : ∃ ns k zs t w kk, δ[i]? = some (.scr ns) ∧ δ[j]? = some (.own k) ∧ twn? k = some zs ∧ δ[l]? = some (wrS t C w kk) ∧ P ns k zs t w kk := h
theorem e_callX {P : List Int → OK → List PyData → Addr → List Nat → Nat → Prop} (h0 : δ[i]? = some (.scr ns)) (h1 : δ[j]? = some (.own ok)) (h2 : twn? ok = some zs) (h3 : δ[l]? = some (wrS t C w k)) (q : P ns ok zs t w k) : ∃ ns k zs t w kk, δ[i]? = some (.scr ns) ∧ δ[j]? = some (.own k) ∧ twn? k = some zs ∧ δ[l]? = some (wrS t C w kk) ∧ P ns k zs t w kk := ⟨ns, ok, zs, t, w, k, h0, h1, h2, h3, q⟩
end
end RD

/-! The data layer, part z: len(set(texts)), sorted(set(texts)). -/
namespace RD
open PySem PySem.Spec PyProof.Rows L2
/-- a text put to the texts met, if it is new -/
def insT {α : Type} [DecidableEq α] (L : List α) (k : α) : List α := if k ∈ L then L else L ++ [k]
def dedT {α : Type} [DecidableEq α] (xs : List α) : List α := xs.foldl insT []
theorem insT_nodup {α : Type} [DecidableEq α] {L : List α} {k : α} (h : L.Nodup) : (insT L k).Nodup := by
  unfold insT
  split
  · exact h
  · rename_i hk
    refine List.nodup_append.mpr ⟨h, by simp, fun a ha b hb e => ?_⟩
    rw [List.mem_singleton.mp hb] at e
    exact hk (e ▸ ha)
theorem insT_len {α : Type} [DecidableEq α] (L : List α) (k : α) : (insT L k).length ≤ L.length + 1 := by
  unfold insT
  split
  · omega
  · simp
theorem mem_insT {α : Type} [DecidableEq α] {L : List α} {k x : α} : x ∈ insT L k ↔ x ∈ L ∨ x = k := by
  unfold insT
  split
  · rename_i hk
    exact ⟨.inl, fun z => z.elim id fun e => e ▸ hk⟩
  · simp
theorem foldl_insT {α : Type} [DecidableEq α] : ∀ (xs L : List α), L.Nodup → (xs.foldl insT L).Nodup ∧ (∀ x, x ∈ xs.foldl insT L ↔ x ∈ L ∨ x ∈ xs) ∧ (xs.foldl insT L).length ≤ L.length + xs.length
  | [], L, h => ⟨h, fun x => by simp, by simp⟩
  | k :: xs, L, h => by
    obtain ⟨h1, h2, h3⟩ := foldl_insT xs (insT L k) (insT_nodup h)
    refine ⟨h1, fun x => ?_, ?_⟩
    · rw [List.foldl_cons, h2, mem_insT, List.mem_cons, or_assoc]
    · have := insT_len L k
      rw [List.foldl_cons, List.length_cons]
      omega
theorem dedT_nodup {α : Type} [DecidableEq α] (xs : List α) : (dedT xs).Nodup := (foldl_insT xs [] List.nodup_nil).1
theorem mem_dedT {α : Type} [DecidableEq α] {xs : List α} {x : α} : x ∈ dedT xs ↔ x ∈ xs := by
  have := (foldl_insT xs [] List.nodup_nil).2.1 x
  unfold dedT
  simpa using this
theorem dedT_len {α : Type} [DecidableEq α] (xs : List α) : (dedT xs).length ≤ xs.length := by
  have := (foldl_insT xs [] List.nodup_nil).2.2
  unfold dedT
  simpa using this
/-! ### what a set of texts is -/
def txOf (e : Int × Value) : Str := match e.2 with | .str k _ => k | _ => Str.empty
def TxE (w : World) (e : Int × Value) : Prop := ∃ k tk, e.2 = Value.str k tk ∧ e.1 = hashStr w k
def SetS (w : World) (h : Heap) (a : Addr) (L : List Str) : Prop :=
  ∃ o es ep t, h.get? a = some o ∧ o.ExactSet ∧ o.data = .set es ep t ∧ (∀ e ∈ es.toList, TxE w e) ∧ L.Nodup ∧ (es.toList.map txOf).Perm L ∧
    es.size < scanBound ∧ t.fits es.size = true ∧ Ris t.place.toList ∧ (w.params.followText "set-order" = true ∨ t.led = true)
section
variable {P : Program} {w : World} {h h' : Heap} {a : Addr} {L : List Str}
theorem SetS.keep (R : SetS w h a L) (k : ∀ o, h.get? a = some o → h'.get? a = some o) : SetS w h' a L := by
  obtain ⟨o, es, ep, t, ho, r⟩ := R
  exact ⟨o, es, ep, t, k o ho, r⟩
theorem tx_elems {l : List (Int × Value)} (g : ∀ e ∈ l, TxE w e) : ElemsOf (PySem.strKind P w) l := fun e he => by
  obtain ⟨k, tk, g1, g2⟩ := g e he
  exact ⟨⟨k, by rw [g1]; exact strKind_is P w k tk, g2⟩, by rw [g1] <;> rfl⟩
theorem tx_is {e : Int × Value} (g : TxE w e) (k : Str) : (PySem.strKind P w).is k e.2 = true ↔ txOf e = k := by
  obtain ⟨k0, tk, g1, _⟩ := g
  unfold txOf
  rw [g1]
  constructor
  · intro z
    exact (PySem.strKind P w).inj _ _ _ (strKind_is P w k0 tk) z
  · intro z
    subst z
    exact strKind_is P w _ tk
theorem tx_mem {l : List (Int × Value)} (g : ∀ e ∈ l, TxE w e) (k : Str) : k ∈ l.map txOf ↔ ∃ e ∈ l, (PySem.strKind P w).is k e.2 = true := by
  rw [List.mem_map]
  exact ⟨fun ⟨e, he, q⟩ => ⟨e, he, (tx_is (g e he) k).2 q⟩, fun ⟨e, he, q⟩ => ⟨e, he, (tx_is (g e he) k).1 q⟩⟩
end
section
variable {P : Program} {w : World} {A : Around} {E : Value → Shared → Prop} {s : Shared} {a : Addr} {L : List Str}
theorem setS_tail {g : Bool → Sem Unit} (hg : ∀ (b : Bool) (s1 : Shared) (Q' : Unit → Shared → Prop), Q' () s1 → wpAny (model P w) A (g b) Q' E s1)
    {o : Obj} {es : Array (Int × Value)} {ep : Nat} {t : SetTable} (ho : s.heap.get? a = some o) (hex : o.ExactSet) (hd : o.data = .set es ep t)
    {fs : Array (Int × Value)} {t2 : SetTable} {L' : List Str} (g1 : ∀ e ∈ fs.toList, TxE w e) (nd : L'.Nodup) (pm1 : (fs.toList.map txOf).Perm L')
    (few : fs.size < scanBound) (fit : t2.fits fs.size = true) (ri : Ris t2.place.toList) (ld : w.params.followText "set-order" = true ∨ t2.led = true) {old : Bool} {R : Option Bool → Shared → Prop}
    (hR : ∀ h', Heap.SameBut a s.heap h' → SetS w h' a L' → R (some true) { s with heap := h' }) :
    wpAny (model P w) A (do
        storeSet a fs t2
        if (!old && t2.tooFull) = true then do
            g (relayAll t2 fs (SetTable.grown fs.size)).2.2
            storeSet a (relayAll t2 fs (SetTable.grown fs.size)).1 (relayAll t2 fs (SetTable.grown fs.size)).2.1
            pure (some true)
          else pure (some true)) R E s := by
  refine wpAny_bind (wpAny_storeSet_of ho hd ?_ (fits_of_scanBound few))
  have p1 := store_at (es' := fs) (t' := t2) ho hd
  have b1 := Heap.SameBut.update s.heap a (Obj.putSet fs t2)
  split
  · have pm := relayAll_perm t2 fs (SetTable.grown fs.size)
    have fit3 := relayAll_fits t2 fs (SetTable.grown fs.size)
    have ri3 := relayAll_ris t2 fs (SetTable.grown fs.size)
    have ld3 := relayAll_led t2 fs (SetTable.grown fs.size)
    generalize relayAll t2 fs (SetTable.grown fs.size) = Z at pm fit3 ri3 ld3 ⊢
    obtain ⟨fs2, t3, gave⟩ := Z
    dsimp only at pm fit3 ri3 ld3 ⊢
    have few2 : fs2.size < scanBound := by
      rw [← Array.length_toList, pm.length_eq, Array.length_toList]
      exact few
    refine wpAny_bind (hg _ _ _ ?_)
    refine wpAny_bind (wpAny_storeSet_of p1 rfl ?_ (fits_of_scanBound few2))
    have p2 := store_at (es' := fs2) (t' := t3) p1 rfl
    refine wpAny_pure (hR _ (b1.trans (Heap.SameBut.update _ a _)) ?_)
    exact ⟨_, fs2, _, t3, p2, hex, rfl, fun e he => g1 e (pm.mem_iff.mp he), nd, (pm.map txOf).trans pm1, few2, fit3, ri3, ld.imp id fun z => by rw [ld3]; exact z⟩
  · exact wpAny_pure (hR _ b1 ⟨_, fs, _, t2, p1, hex, rfl, g1, nd, pm1, few, fit, ri, ld⟩)
theorem setS_add {k : Str} {tk : Tok} {Q : Bool → Shared → Prop} (R : SetS w s.heap a L) (room : L.length + 1 < scanBound)
    (hQ : ∀ b h', Heap.SameBut a s.heap h' → SetS w h' a (insT L k) → Q b { s with heap := h' }) :
    wpAny (model P w) A (setAddHashed a (.str k tk) ((PySem.strKind P w).hash k)) Q E s := by
  obtain ⟨o, es, ep, t, ho, hex, hd, g, nd, pmL, few, fit, ri, ld⟩ := R
  have key : (PySem.strKind P w).is k (.str k tk) = true := strKind_is P w k tk
  have scn : (Value.str k tk).scannable = true := rfl
  have els : ElemsOf (PySem.strKind P w) es.toList := tx_elems g
  have elen : es.size = L.length := by rw [← Array.length_toList, ← pmL.length_eq, List.length_map]
  unfold setAddHashed setAddHashedIn
  refine wpAny_holding (wpAny_bind (wpAny_setState_of ho hd fit ?_))
  dsimp only
  rw [byScan_of scn few els]
  simp only [↓reduceIte]
  unfold setAddByScan
  refine wpAny_bind ?_
  refine wpAny_bind (wpAny_rule ?_)
  refine wpAny_bind (wpAny_setScan_of key ho hd fit els ?_)
  cases hfi : List.findIdx? (fun e => (PySem.strKind P w).is k e.2) es.toList with
  | some j =>
    dsimp only
    obtain ⟨hj, pj, _⟩ := List.findIdx?_eq_some_iff_getElem.mp hfi
    have hk : k ∈ L := pmL.mem_iff.mp ((tx_mem (P := P) g k).2 ⟨es.toList[j], List.getElem_mem hj, pj⟩)
    refine wpAny_pure (wpAny_pure ?_)
    have q := hQ false s.heap (Heap.SameBut.refl a s.heap)
    unfold insT at q
    rw [if_pos hk] at q
    exact q ⟨o, es, ep, t, ho, hex, hd, g, nd, pmL, few, fit, ri, ld⟩
  | none =>
    dsimp only
    have hnk : k ∉ L := fun z => by
      obtain ⟨e, he, q⟩ := (tx_mem (P := P) g k).1 (pmL.mem_iff.mpr z)
      have c := List.findIdx?_eq_none_iff.mp hfi e he
      rw [q] at c
      cases c
    have eL : insT L k = L ++ [k] := by
      unfold insT
      rw [if_neg hnk]
    have way : ∀ (b : Bool) {s1 : Shared} {Q' : Unit → Shared → Prop}, Q' () s1 → wpAny (model P w) A (match b with | true => rule "set.scan.the-table-gave-way" | false => pure ()) Q' E s1 :=
      fun b s1 Q' q => by cases b <;> first | exact wpAny_pure q | exact wpAny_rule q
    have pm := layNew_perm t es ((PySem.strKind P w).hash k) (.str k tk)
    have fit1 := layNew_fits t es ((PySem.strKind P w).hash k) (.str k tk)
    have ri1 := layNew_ris t es ((PySem.strKind P w).hash k) (.str k tk) ri
    have ld1 := layNew_led t es ((PySem.strKind P w).hash k) (.str k tk)
    generalize layNew t es ((PySem.strKind P w).hash k) (.str k tk) = Z at pm fit1 ri1 ld1 ⊢
    obtain ⟨fs, t1, old, gave⟩ := Z
    dsimp only at pm fit1 ri1 ld1 ⊢
    rw [Array.toList_push] at pm
    have pk : (fs.toList.map txOf).Perm (L ++ [k]) := by
      have := pm.map txOf
      rw [List.map_append] at this
      exact this.trans (pmL.append_right _)
    have g1 : ∀ e ∈ fs.toList, TxE w e := fun e he => by
      rcases List.mem_append.mp (pm.mem_iff.mp he) with z | z
      · exact g e z
      · rw [List.mem_singleton.mp z]
        exact ⟨k, tk, rfl, rfl⟩
    have nd1 : (L ++ [k]).Nodup := eL ▸ insT_nodup nd
    have few1 : fs.size < scanBound := by
      rw [← Array.length_toList, ← List.length_map (f := txOf), pk.length_eq, List.length_append, List.length_singleton]
      exact room
    have ldd : w.params.followText "set-order" = true ∨ t1.led = true := ld.imp id fun z => by rw [ld1]; exact z
    have fin : ∀ h', Heap.SameBut a s.heap h' → SetS w h' a (L ++ [k]) → Q true { s with heap := h' } := fun h' sb r => hQ true h' sb (eL ▸ r)
    refine wpAny_bind (way _ ?_)
    split
    · refine wpAny_bind ?_
      rw [hashByValue_scannable 8 scn]
      refine wpAny_pure ?_
      refine setS_tail ?_ ho hex hd g1 nd1 pk few1 ?_ ?_ ?_ ?_
      · intro b s1 Q' q; cases b <;> first | exact wpAny_pure q | exact wpAny_rule q
      · first | (split <;> first | exact fit1 | exact SetTable.fits_plain_off fit1) | exact fit1
      · first | (split <;> exact ri1) | exact ri1
      · first | (split <;> exact ldd) | exact ldd
      · intro h' sb r; dsimp only; exact wpAny_pure (fin h' sb r)
    · refine wpAny_bind (wpAny_pure ?_)
      simp only [↓reduceIte]
      refine setS_tail ?_ ho hex hd g1 nd1 pk few1 fit1 ri1 ldd ?_
      · intro b s1 Q' q; cases b <;> first | exact wpAny_pure q | exact wpAny_rule q
      · intro h' sb r; dsimp only; exact wpAny_pure (fin h' sb r)
theorem setS_new {h : Heap} {a : Addr} (ho : h.get? a = some { cls := .type "set", dict := none, data := .set #[] 0 (.fresh 0 0 (!w.params.followText "set-order")) }) : SetS w h a [] :=
  ⟨_, #[], 0, _, ho, ⟨rfl, rfl, rfl⟩, rfl, (fun e he => by simp at he), List.nodup_nil, .refl _, by decide, rfl, List.Pairwise.nil, by
    show _ ∨ (!w.params.followText "set-order") = true
    cases w.params.followText "set-order" with
    | false => exact .inr rfl
    | true => exact .inl rfl⟩
/-- the loop that fills a set -/
theorem set_fill {I : Addr} {fp wr : List Addr} {G : Array GenState → Array GenState → Prop} {n : Nat} {Pv : Nat → Value → Prop} {St : Nat → Shared → Prop} {R : Result → Shared → Prop}
    (W : WalksS P w A.in1 I fp wr G n Pv St) (T : Addr) (hT : T ∉ fp) (xs : List Str) (hn : n = xs.length) (hb : xs.length + 1 < scanBound) (val : ∀ i v, Pv i v → ∃ k t, xs[i]? = some k ∧ v = .str k t) :
    ∀ (m i : Nat) (s : Shared), n - i = m → i ≤ n → St i s → SetS w s.heap T (dedT (xs.take i)) →
      (∀ s', Moved (T :: wr) G s s' → SetS w s'.heap T (dedT xs) → R (.ok (.ret .none)) s') →
      codeAny (model P w) A (.builtin "set.update.loop" ⟨[.ref T, .ref I], []⟩) R s := by
  have hTw : T ∉ wr := fun z => hT (W.sub _ z)
  have up : ∀ b ∈ wr, b ∈ T :: wr := fun b z => List.mem_cons_of_mem _ z
  intro m
  induction m with
  | zero =>
    intro i s em hi hst hS hR
    have hin : i = n := by omega
    subst hin
    refine codeAny_builtin F.entry_set_update_loop ?_
    rw [Around.under_plainId F.plain_set_update_loop _]
    show wpAny _ A.in1 (pyNext (.ref I) >>= _) _ _ s
    refine wpAny_bind (W.done s _ _ hst fun s' mv => ?_)
    show wpAny _ A.in1 (ret Value.none) _ _ s'
    rw [List.take_of_length_le (by omega)] at hS
    exact wpAny_pure (hR s' (mv.mono up) (hS.keep fun o e => mv.heap T o hTw e))
  | succ m ih =>
    intro i s em hi hst hS hR
    have hlt : i < n := by omega
    refine codeAny_builtin F.entry_set_update_loop ?_
    rw [Around.under_plainId F.plain_set_update_loop _]
    show wpAny _ A.in1 (pyNext (.ref I) >>= _) _ _ s
    refine wpAny_bind (W.item i s _ _ hlt hst fun v s' hP hst' mv => ?_)
    obtain ⟨z, t, hz, rfl⟩ := val i v hP
    have hS1 : SetS w s'.heap T (dedT (xs.take i)) := hS.keep fun o e => mv.heap T o hTw e
    show wpAny _ A.in1 (holding [Value.str z t] (setAdd T (.str z t)) >>= _) _ _ s'
    refine wpAny_bind (wpAny_holding ?_)
    unfold setAdd
    refine wpAny_holding ?_
    refine wpAny_bind ((PySem.strKind P w).pyHash (k := z) (strKind_is _ _ _ _) ?_)
    have hdl := dedT_len (xs.take i)
    rw [List.length_take] at hdl
    refine setS_add (s := { s' with toks := s'.toks + 1 }) hS1 (by omega) fun b h' sb hS2 => ?_
    have hS3 : SetS w h' T (dedT (xs.take (i + 1))) := by
      have e : dedT (xs.take (i + 1)) = insT (dedT (xs.take i)) z := by
        rw [List.take_add_one, hz]
        unfold dedT
        rw [List.foldl_append]
        rfl
      rw [e]
      exact hS2
    refine wpAny_pure ⟨plainId_quiet F.plain_set_update_loop _, ih (i + 1) _ (by omega) hlt (W.frame _ s' _ _ hst' (Nat.le_succ _) fun b hb o e => ?_) hS3 fun s2 mv2 hS4 => ?_⟩
    · rw [sb.2 b (fun z : b = T => hT (by rw [← z]; exact hb))]
      exact e
    · refine hR s2 (Moved.trans W.gtrans ((mv.mono up).then_heap (Nat.le_succ _) fun b o hb e => ?_) mv2) hS4
      rw [sb.2 b (fun z : b = T => hb (by rw [z]; exact List.mem_cons_self))]
      exact e
set_option maxRecDepth 100000 in
set_option maxHeartbeats 3200000 in
theorem call_setS {l : Addr} {items : Array Value} (xs : List Str) {Q : Value → Shared → Prop} (calm : A.handled = none) (hl : s.heap.IsList l items) (hit : StrsAre items.toList xs) (hb : xs.length + 1 < scanBound)
    (h : ∀ (h' : Heap) (tk : Nat), SetS w h' s.heap.objs.size (dedT xs) → (∀ b o, s.heap.get? b = some o → h'.get? b = some o) → Q (.ref s.heap.objs.size) { s with heap := h', toks := tk }) :
    wpAny (model P w) A (call (.type "set") [.ref l]) Q E s := by
  have isz : items.size = xs.length := by
    rw [← Array.length_toList]
    exact StrsAre.len_eq hit
  obtain ⟨c, tl, mro⟩ := F.called_set.mro
  have mde := F.called_set.made
  have sbs := F.called_set.sub
  refine wpAny_call (codeAny_of_tree ?_)
  show wpAny _ _ (callAny (.type "set") _) _ _ _
  refine wpAny_pure ⟨Code.quiet_builtin _ (by decide +kernel), codeAny_builtin F.entry_type_call ?_⟩
  rw [Around.under_plain (weight_type_call_type "set" [.ref l] []) rfl]
  have nt := F.called_set.notType
  have cc := F.called_set.canCreate
  have tc := F.typeCall_set_1 (.ref l)
  repeat (any_goals (first | assumption | wp_step))
  let N : Obj := { cls := .type "set", dict := none, data := .set #[] 0 (.fresh 0 0 (!w.params.followText "set-order")) }
  refine codeAny_mono (code_set_led1 (.ref l) (E := E) (Q₁ := fun ob s1 => ob = .ref s.heap.objs.size ∧ s1 = { s with heap := s.heap.push N }) ⟨rfl, rfl⟩) fun r s1 hr => ?_
  cases r with
  | error e => exact hr
  | ok fl =>
    cases fl with
    | ret ob =>
      obtain ⟨rfl, rfl⟩ := hr
      have atN : (s.heap.push N).get? s.heap.objs.size = some N := Heap.get?_push_size _ rfl
      have tyN : Shared.TypeIs { s with heap := s.heap.push N } (.ref s.heap.objs.size) "set" := ⟨_, atN, rfl⟩
      have li := F.called_set.init.lookup
      have bi := F.called_set.init.bind (.ref s.heap.objs.size)
      repeat (any_goals (first | assumption | wp_step))
      refine codeAny_mono (codeAny_call_builtin (R := wants (fun r s2 => r = .none ∧ ∃ h' tk, s2 = { s with heap := h', toks := tk } ∧ SetS w h' s.heap.objs.size (dedT xs) ∧ (∀ b o, s.heap.get? b = some o → h'.get? b = some o)) E) F.called_set.init.plain F.entry_set_init (check_set_init_1 tyN ?_)) fun r2 s2 hr2 => ?_
      · obtain ⟨ol, hol, hcl, nl, hdl⟩ := hl
        obtain ⟨ocls, odict, odata, oslots⟩ := ol
        simp only at hcl hdl
        subst hcl
        subst hdl
        have hol2 : (s.heap.push N).get? l = some { cls := .type "list", dict := odict, data := .seq items nl, slots := oslots } := Heap.get?_push_of_some _ hol
        have ss1 := F.sub_list_set
        have ss2 := F.sub_list_frozenset
        have ned : (Value.type "list" == Value.type "dict") = false := by decide
        have hl1 : (s.heap.push N).IsList l items := ⟨_, hol2, rfl, nl, rfl⟩
        unfold Builtin.«set.__init__» noKeywords Builtin.Frozenset.updateFrom
        generalize hPI : pyIter = PI
        wp_walk
        subst hPI
        refine wpAny_pyIter_list hl1 ?_
        refine wpAny_bind (wpAny_runValue ?_)
        have lS : l < s.heap.objs.size := Heap.lt_size hol
        have calm3 : A.in1.in1.in1.handled = none := by simp [calm]
        have neI : l ≠ (s.heap.push N).objs.size := by
          rw [Heap.size_push]
          exact Nat.ne_of_lt (Nat.lt_succ_of_lt lS)
        have notF : s.heap.objs.size ∉ [(s.heap.push N).objs.size, l] := by
          rw [Heap.size_push]
          simp only [List.mem_cons, List.mem_singleton, List.not_mem_nil, or_false, not_or]
          exact ⟨Nat.ne_of_lt (Nat.lt_succ_self _), Nat.ne_of_gt lS⟩
        have val : ∀ (i : Nat) (v : Value), items[i]? = some v → ∃ k t, xs[i]? = some k ∧ v = .str k t := fun i v hv => by
          have hi : i < xs.length := by rw [← isz]; exact (Array.getElem?_eq_some_iff.mp hv).1
          obtain ⟨t, e⟩ := SS.strs_at hit i v (by rw [Array.getElem?_toList]; exact hv)
          refine ⟨xs[i], t, List.getElem?_eq_getElem hi, ?_⟩
          rw [e, List.getD_eq_getElem?_getD, List.getElem?_eq_getElem hi] <;> rfl
        refine set_fill ((Walks.list calm3 _ l neI items).toS) s.heap.objs.size notF xs isz hb val (items.size - 0) 0 _ (by omega) (Nat.zero_le _) ⟨⟨_, Heap.get?_push_size _ rfl, rfl, rfl⟩, (hl1.push _)⟩ ?hS0 ?hR
        case hS0 => exact setS_new (Heap.get?_push_of_some _ atN)
        case hR =>
          intro s' mv hS'
          obtain ⟨h', g2, d', tk', os'⟩ := s'
          have eg : g2 = s.gens := mv.gens
          have ed : d' = s.drawn := mv.drawn
          have eo : os' = s.os := mv.os
          subst eg
          subst ed
          subst eo
          show wpAny _ _ _ _ _ _
          refine wpAny_pure ?_
          show wpAny _ _ (ret Value.none) _ _ _
          refine wpAny_pure ⟨rfl, h', tk', rfl, hS', fun b o e => ?_⟩
          have lt0 : b < s.heap.objs.size := Heap.lt_size e
          have ne1 : b ≠ s.heap.objs.size := Nat.ne_of_lt lt0
          have ne2 : b ≠ (s.heap.push N).objs.size := by
            rw [Heap.size_push]
            exact Nat.ne_of_lt (Nat.lt_succ_of_lt lt0)
          exact mv.heap b o (by simp only [List.mem_cons, List.mem_singleton, List.not_mem_nil, or_false, not_or]; exact ⟨ne1, ne2⟩) (Heap.get?_push_of_some _ (Heap.get?_push_of_some _ e))
      · cases r2 with
        | error e => exact hr2
        | ok fl2 =>
          cases fl2 with
          | ret r =>
            obtain ⟨rfl, h', tk, rfl, hS', hk'⟩ := hr2
            repeat (any_goals (first | assumption | wp_step))
            exact h _ _ hS' hk'
          | _ => exact hr2.elim
    | _ => exact hr.elim
end
end RD
namespace RD
open PySem PySem.Spec PyProof.Rows L2
section
variable {X : Cx} {W : WX} {a b c e o : Expr} {es : List Expr} {pos p p2 q : Pos} {we : WE}
theorem strs_vals : ∀ {xs : List Str} {us : List Value}, Vals (xs.map V.str) us → StrsAre us xs
  | [], _, .nil => .nil
  | x :: xs, _, .cons r t => by
    obtain ⟨k, rfl⟩ := r
    exact .cons x k (strs_vals t)
theorem dq_strL {G : Hp} : ∀ {xs : List Str} {vs : List V}, DqAll G vs (xs.map PyData.str) → vs = xs.map V.str
  | [], _, .nil => rfl
  | x :: xs, _, .cons h t => by
    cases h
    rw [List.map_cons, dq_strL t]
/-- len(set(texts)) -/
def tLenS (K : PySem.W.Frag) (ta : TE) : TE := fun σ H Q => ta σ H fun x H1 => ∃ l, ∃ xs : List Str, x = .ref l ∧ SqL K H1 l (xs.map V.str) ∧ xs.length + 1 < scanBound ∧ Q (.int (dedT xs).length) H1
theorem pe_lenS {ta : TE} (calm : X.calm = true) (hg : Gl X "len") (hm : X.mg "len" = none) (hg2 : Gl X "set") (hm2 : X.mg "set" = none) (ha : PE X a ta) (na : starEach [a] X.env = (false, eval a X.env) :: starEach [] X.env := by rfl) :
    PE X (.Call (.Name "len" p) [.Call (.Name "set" p2) [a] [] q] [] pos) (tLenS X.K ta) := by
  refine ⟨fun pins s σ H Q I h => ?_⟩
  refine Call_ (ld_blt I hg hm boot_len ?_)
  refine callWith_builtin1 (args_cons ?_ rfl) rfl rfl
  refine Call_ (ld_blt I hg2 hm2 boot_set ?_)
  refine callWith_type1 (args_cons (thn (ha.run pins s σ H _ I h) fun v s1 ⟨x, H1, I1, r1, q1⟩ => args_nil ?_) na) na rfl
  obtain ⟨l, xs, rfl, hq, few, q1⟩ := q1
  cases r1
  obtain ⟨its, r, pl, hz⟩ := I1.list hq
  refine call_setS xs (I1.ok.hd calm) pl.isList (by simpa using strs_vals r) few fun h' tk hS hk => ?_
  refine args_nil ?_
  obtain ⟨o, es, ep, t, ho, hex, hd, _, _, pm, hb, hf, _⟩ := hS
  have I2 : Inv X pins σ H1 { s1 with heap := h', toks := tk } := I1.kept hk
  have en : es.size = (dedT xs).length := by rw [← Array.length_toList, ← pm.length_eq, List.length_map]
  refine call_len_set ho hex hd hf (by unfold scanBound at hb; omega) ⟨.int (dedT xs).length, H1, I2.tok _, ⟨_, by rw [en]⟩, q1⟩
def lenSetF (zs : List Str) : PyData := .int (dedT zs).length
def wLenSet (w : WE) : WE := fun δ Q E => w δ (fun x δ' => ∃ zs : List Str, x = .list (zs.map PyData.str) ∧ zs.length < 4000 ∧ Q (.int (dedT zs).length) δ') E
theorem wLenSet_mono (h : MonoE we) : MonoE (wLenSet we) := fun δ Q Q' E E' hq he hh => h _ _ _ _ _ (fun x δ' ⟨zs, h1, h2, h3⟩ => ⟨zs, h1, h2, hq _ _ h3⟩) he hh
theorem de_lenSet (calm : X.calm = true) (hm : X.mg "len" = none) (hm2 : X.mg "set" = none) (ha : DE X W a we) (hg : Gl X "len" := by rfl) (hg2 : Gl X "set" := by rfl) (na : starEach [a] X.env = (false, eval a X.env) :: starEach [] X.env := by rfl) :
    DE X W (.Call (.Name "len" p) [.Call (.Name "set" p2) [a] [] q] [] pos) (wLenSet we) := by
  refine ⟨pe_imp (pe_lenS calm hg hm hg2 hm2 ha.pe na) fun σ H Q hh => ?_, wLenSet_mono ha.mono⟩
  obtain ⟨B, G, F, δ, R, hh⟩ := hh
  refine ⟨B, G, F, δ, R, ha.mono _ _ _ _ _ (fun x δ1 h1 => ?_) (fun _ _ z => z) hh⟩
  intro G1 H1 v g1 R1 d1
  obtain ⟨zs, rfl, hl, h2⟩ := h1
  cases d1 with
  | lst ha hb =>
    rw [dq_strL hb] at ha
    exact ⟨_, zs, rfl, SqL.of (R1.g _ _ ha), by unfold scanBound; omega, h2 G1 H1 _ g1 R1 (.int _)⟩
/-- sorted(set(texts)) -/
def tSortS (K : PySem.W.Frag) (ta : TE) : TE := fun σ H Q => ta σ H fun x H1 => ∃ l, ∃ xs : List Str, x = .ref l ∧ SqL K H1 l (xs.map V.str) ∧ xs.length + 1 < scanBound ∧ ∀ (out : List Str) (q : Addr), out.Perm (dedT xs) → H1 q = none → Q (.ref q) (upd H1 q (.lst ((out.mergeSort leS).map V.str)))
theorem strs_of : ∀ (l : List Value), (∀ v ∈ l, ∃ k tk, v = Value.str k tk) → StrsAre l (l.map fun v => txOf (0, v))
  | [], _ => .nil
  | v :: l, h => by
    obtain ⟨k, tk, rfl⟩ := h v List.mem_cons_self
    exact .cons k tk (strs_of l fun u hu => h u (List.mem_cons_of_mem _ hu))
theorem pe_sortS {k : Nat} {ta : TE} (calm : X.calm = true) (hr : Room k X.A) (hg : Gl X "sorted") (hm : X.mg "sorted" = none) (hg2 : Gl X "set") (hm2 : X.mg "set" = none) (ha : PE X a ta) (na : starEach [a] X.env = (false, eval a X.env) :: starEach [] X.env := by rfl) :
    PE X (.Call (.Name "sorted" p) [.Call (.Name "set" p2) [a] [] q] [] pos) (tSortS X.K ta) := by
  refine ⟨fun pins s σ H Q I h => ?_⟩
  refine Call_ (ld_blt I hg hm boot_sorted ?_)
  refine callWith_builtin1 (args_cons ?_ rfl) rfl rfl
  refine Call_ (ld_blt I hg2 hm2 boot_set ?_)
  refine callWith_type1 (args_cons (thn (ha.run pins s σ H _ I h) fun v s1 ⟨x, H1, I1, r1, q1⟩ => args_nil ?_) na) na rfl
  obtain ⟨l, xs, rfl, hq, few, q1⟩ := q1
  cases r1
  obtain ⟨its, r, pl, hz⟩ := I1.list hq
  refine call_setS xs (I1.ok.hd calm) pl.isList (by simpa using strs_vals r) few fun h' tk hS hk => ?_
  refine args_nil ?_
  obtain ⟨o, es, ep, t, ho, hex, hd, g, nd, pm, hb, hf, ri, ld⟩ := hS
  have I2 : Inv X pins σ H1 { s1 with heap := h', toks := tk } := I1.kept hk
  have room := hr.un
  refine Calls.call_function_entry kind_sorted plain_sorted entry_sorted (args_sorted1 _) ?_
  unfold Builtin.«sorted»
  refine wpAny_bind (m := checkCount "sorted" 1 1 _) (wpAny_pure ?_)
  refine wpAny_bind (collect_set (A := X.A.in1) (s := { s1 with heap := h', toks := tk }) (I1.ok.hd calm) ⟨o, ho, hex.1, hd⟩ hf hb ri ld fun s3 vs k3 sz3 g3 o3 pm3 => ?_)
  have are := strs_of vs fun v hv => by
    obtain ⟨e, he, z⟩ := List.mem_map.mp (pm3.mem_iff.mp hv)
    obtain ⟨k, tk, h1, _⟩ := g e he
    exact ⟨k, tk, by rw [← z]; exact h1⟩
  have pk : (vs.map fun v => txOf (0, v)).Perm (dedT xs) := by
    have z := pm3.map fun v => txOf (0, v)
    rw [List.map_map] at z
    exact z.trans pm
  generalize hks : (vs.map fun v => txOf (0, v)) = ks at are pk
  have la : vs.length = ks.length := by rw [← hks, List.length_map]
  have ldl := dedT_len xs
  have lk : ks.length ≤ xs.length := by rw [pk.length_eq]; exact ldl
  have lk2 : ks.length ≤ sizeLine := by
    rw [sizeLine_eq]
    unfold scanBound at few
    omega
  have each := strs_each are
  refine wpAny_bind (wpAny_newList ?_ (by rw [la]; exact lk2))
  have at1 : (s3.heap.push (seqObj "list" vs.toArray 0)).get? s3.heap.objs.size = some (seqObj "list" vs.toArray 0) := Heap.get?_push_size _ rfl
  refine wpAny_bind (wpAny_holding (PySem.W.list_sort_data (enc := PyData.str) at1 each (strs_reads each) (alike_strs ks) (PySem.W.Sortable.others fun _ => ⟨(fun z => nomatch z), fun _ z => nomatch z⟩) lk2 (fun z _ => ?_) fun out hlo he => ?_))
  · show X.A.units + 1 + 1 + 0 < cLine
    omega
  · obtain ⟨e', he'⟩ := sortedHeap_at (vs := vs) (out := out.toArray) at1
    have hp : s1.heap.objs.size ≤ s3.heap.objs.size := by
      refine Nat.le_trans ?_ sz3
      exact Nat.le_of_lt (Heap.lt_size ho)
    have fr : H1 s3.heap.objs.size = none := I1.hok.fresh hp
    have hlen : ((ks.mergeSort leS).map V.str).length ≤ sizeLine := by
      rw [List.length_map, List.length_mergeSort]
      exact lk2
    have kk : ∀ b u, s1.heap.get? b = some u → (sortedHeap (s3.heap.push (seqObj "list" vs.toArray 0)) s3.heap.objs.size vs out.toArray).get? b = some u := fun b u e => by
      have e3 := k3 b u (hk b u e)
      have hb : b < s3.heap.objs.size := Heap.lt_size e3
      rw [sortedHeap_old (Nat.ne_of_lt hb) (by rw [size_push']; exact Nat.lt_succ_of_lt hb)]
      exact Heap.get?_push_of_some _ e3
    have J : Inv X pins σ (upd H1 s3.heap.objs.size (.lst ((ks.mergeSort leS).map V.str))) { s1 with heap := sortedHeap (s3.heap.push (seqObj "list" vs.toArray 0)) s3.heap.objs.size vs out.toArray, gens := s3.gens, drawn := s3.drawn, toks := s3.toks } :=
      I1.call (ch := []) (Un.laid kk hp fr) (I1.hok.laid kk hp ⟨hlen, out, e', each_strs he, he'⟩) (by rw [g3]; exact I1.bare) (fun _ z => nomatch z)
    refine wpAny_pure ⟨_, rfl, .ref s3.heap.objs.size, upd H1 s3.heap.objs.size (.lst ((ks.mergeSort leS).map V.str)), ?_, rfl, q1 ks _ pk fr⟩
    cases s3
    cases o3
    exact J
def wSortSet (w : WE) : WE := fun δ Q E => w δ (fun x δ' => ∃ zs : List Str, x = .list (zs.map PyData.str) ∧ zs.length < 4000 ∧ ∀ out : List Str, out.Perm (dedT zs) → Q (.list ((out.mergeSort leS).map PyData.str)) δ') E
theorem wSortSet_mono (h : MonoE we) : MonoE (wSortSet we) := fun δ Q Q' E E' hq he hh => h _ _ _ _ _ (fun x δ' ⟨zs, h1, h2, h3⟩ => ⟨zs, h1, h2, fun out ho => hq _ _ (h3 out ho)⟩) he hh
theorem de_sortSet {k : Nat} (calm : X.calm = true) (hr : Room k X.A) (hm : X.mg "sorted" = none) (hm2 : X.mg "set" = none) (ha : DE X W a we) (hg : Gl X "sorted" := by rfl) (hg2 : Gl X "set" := by rfl) (na : starEach [a] X.env = (false, eval a X.env) :: starEach [] X.env := by rfl) :
    DE X W (.Call (.Name "sorted" p) [.Call (.Name "set" p2) [a] [] q] [] pos) (wSortSet we) := by
  refine ⟨pe_imp (pe_sortS calm hr hg hm hg2 hm2 ha.pe na) fun σ H Q hh => ?_, wSortSet_mono ha.mono⟩
  obtain ⟨B, G, F, δ, R, hh⟩ := hh
  refine ⟨B, G, F, δ, R, ha.mono _ _ _ _ _ (fun x δ1 h1 => ?_) (fun _ _ z => z) hh⟩
  intro G1 H1 v g1 R1 d1
  obtain ⟨zs, rfl, hl, h2⟩ := h1
  cases d1 with
  | lst ha hb =>
    rw [dq_strL hb] at ha
    refine ⟨_, zs, rfl, SqL.of (R1.g _ _ ha), by unfold scanBound; omega, fun out q pm fr => ?_⟩
    have w0 := Gw.new (o := .lst ((out.mergeSort leS).map V.str)) R1.g fr
    exact h2 out pm _ _ _ (g1.trans (w0.gr R1.f)) (R1.gw w0) (.lst upd_same (dq_strs _))
end
end RD

/-! Words that commute have one root; how many turned words there are. -/
namespace RD
open PySem L2
theorem com_pw : ∀ (n : Nat) (a b : List Nat), a.length + b.length ≤ n → a ≠ [] → b ≠ [] → a ++ b = b ++ a → ∃ t i j, t ≠ [] ∧ 0 < i ∧ 0 < j ∧ a = pw t i ∧ b = pw t j := by
  intro n
  induction n with
  | zero =>
    intro a b h ha
    exact absurd (List.length_eq_zero_iff.mp (by omega)) ha
  | succ n ih =>
    have main : ∀ a b : List Nat, a.length + b.length ≤ n + 1 → a.length ≤ b.length → a ≠ [] → b ≠ [] → a ++ b = b ++ a → ∃ t i j, t ≠ [] ∧ 0 < i ∧ 0 < j ∧ a = pw t i ∧ b = pw t j := by
      intro a b hl hab ha hb e
      have hp : 0 < a.length := List.length_pos_iff.mpr ha
      have e1 : b.take a.length = a := by
        have := congrArg (List.take a.length) e
        rw [List.take_append_of_le_length (Nat.le_refl _), List.take_length, List.take_append_of_le_length hab] at this
        exact this.symm
      obtain ⟨c, rfl⟩ : ∃ c, b = a ++ c := ⟨b.drop a.length, by
        conv => lhs; rw [← List.take_append_drop a.length b, e1]⟩
      have e2 : a ++ c = c ++ a := by
        rw [List.append_assoc] at e
        exact List.append_cancel_left e
      by_cases hc : c = []
      · subst hc
        exact ⟨a, 1, 1, ha, by omega, by omega, (pw_one a).symm, by rw [pw_one, List.append_nil]⟩
      · obtain ⟨t, i, j, ht, hi, hj, ea, ec⟩ := ih a c (by simp at hl; omega) ha hc e2
        exact ⟨t, i, i + j, ht, hi, by omega, ea, by rw [pw_add, ← ea, ← ec]⟩
    intro a b hl ha hb e
    rcases Nat.le_total a.length b.length with h | h
    · exact main a b hl h ha hb e
    · obtain ⟨t, i, j, h1, h2, h3, h4, h5⟩ := main b a (by omega) h hb ha e.symm
      exact ⟨t, j, i, h1, h3, h2, h5, h4⟩
theorem com_root {a b : List Nat} (ha : a ≠ []) (hb : b ≠ []) : a ++ b = b ++ a ↔ rootL a = rootL b := by
  constructor
  · intro e
    obtain ⟨t, i, j, ht, hi, hj, rfl, rfl⟩ := com_pw _ a b (Nat.le_refl _) ha hb e
    rw [root_of_pw ht hi, root_of_pw ht hj]
  · intro e
    have h1 := root_pw ha
    have h2 := root_pw hb
    rw [e] at h1
    generalize rootL b = r at h1 h2
    rw [h1, h2, ← pw_add, ← pw_add, Nat.add_comm]
theorem base_iff {a : List Nat} {p : Nat} (h0 : 0 < p) (h1 : p ≤ a.length) (hd : a.length % p = 0) : pw (a.take p) (a.length / p) = a ↔ perB a p = true := by
  have hm : a.length = a.length / p * p := by
    have := Nat.div_add_mod a.length p
    rw [hd, Nat.add_zero, Nat.mul_comm] at this
    exact this.symm
  have hk : 0 < a.length / p := Nat.div_pos h1 h0
  constructor
  · intro e
    have := per_pow (r := a.take p) hk
    rw [e, List.length_take, Nat.min_eq_left h1] at this
    exact this
  · intro h
    exact (pw_of_per (a.length / p) a hm h).symm
/-! ### turned words -/
theorem rot_zero (a : List Nat) : rot a 0 = a := by simp [rot]
theorem rot_full (a : List Nat) : rot a a.length = a := by simp [rot]
theorem rot_len (a : List Nat) (k : Nat) : (rot a k).length = a.length := by
  unfold rot
  simp
  omega
theorem rot_rot {a : List Nat} {i d : Nat} (h : i + d ≤ a.length) : rot (rot a i) d = rot a (i + d) := by
  unfold rot
  have h1 : d ≤ (a.drop i).length := by simp; omega
  rw [List.drop_append_of_le_length h1, List.take_append_of_le_length h1, List.drop_drop, List.append_assoc]
  congr 1
  rw [← List.take_append_drop i (a.take (i + d)), List.take_take, Nat.min_eq_left (by omega)]
  congr 1
  rw [List.drop_take]
  congr 1
  omega
theorem rot_root {a : List Nat} (ha : a ≠ []) : rot a (rootN a) = a := by
  obtain ⟨h0, h1, h2, h3⟩ := rootN_is ha
  have e := root_pw ha
  have hl := rootL_len ha
  have he := exp_pos ha
  have hs : expN a = expN a - 1 + 1 := by omega
  unfold rot
  have e1 : a = rootL a ++ pw (rootL a) (expN a - 1) := by
    rw [← pw_succ, ← hs]
    exact e
  have e2 : a = pw (rootL a) (expN a - 1) ++ rootL a := by
    rw [← pw_succ', ← hs]
    exact e
  generalize hr : rootL a = r at *
  generalize hm : pw r (expN a - 1) = m at *
  rw [← hl]
  conv => rhs; rw [e2]
  conv => lhs; rw [e1]
  simp
theorem rot_add_root {a : List Nat} (ha : a ≠ []) {k : Nat} (h : k + rootN a ≤ a.length) : rot a (k + rootN a) = rot a k := by
  have hc := conj_rot a k
  have h2 := rot_root (conj_ne ha hc)
  rw [rootN_conj ha hc, rot_rot h] at h2
  exact h2
theorem rot_fix {b : List Nat} {d : Nat} (h0 : 0 < d) (h1 : d < b.length) (e : rot b d = b) : rootN b ≤ d := by
  have hu : b.take d ≠ [] := fun z => by
    have := congrArg List.length z
    rw [List.length_take, List.length_nil] at this
    omega
  have hv : b.drop d ≠ [] := fun z => by
    have := congrArg List.length z
    rw [List.length_drop, List.length_nil] at this
    omega
  have ec : b.take d ++ b.drop d = b.drop d ++ b.take d := by
    rw [List.take_append_drop]
    exact e.symm
  obtain ⟨t, i, j, ht, hi, hj, e1, e2⟩ := com_pw _ _ _ (Nat.le_refl _) hu hv ec
  have eb : b = pw t (i + j) := by
    rw [pw_add, ← e1, ← e2, List.take_append_drop]
  have hr := root_of_pw (k := i + j) ht (by omega)
  rw [← eb] at hr
  have hbn : b ≠ [] := fun z => by
    rw [z] at h1
    simp at h1
  have l1 := rootL_len hbn
  have l2 := rootL_len ht
  have l3 := (rootN_is ht).2.1
  have l4 : d = i * t.length := by
    have := congrArg List.length e1
    rw [List.length_take, pw_len] at this
    omega
  have l5 : 1 * t.length ≤ i * t.length := Nat.mul_le_mul_right _ hi
  rw [hr] at l1
  omega
theorem rot_inj {a : List Nat} (ha : a ≠ []) {i j : Nat} (hij : i < j) (hj : j < rootN a) : rot a i ≠ rot a j := fun e => by
  have hn := (rootN_is ha).2.1
  have hc := conj_rot a i
  have h1 : rot (rot a i) (j - i) = rot a j := by
    rw [rot_rot (by omega)]
    congr 1
    omega
  have h2 := rot_fix (b := rot a i) (d := j - i) (by omega) (by rw [rot_len]; omega) (by rw [h1, e])
  rw [rootN_conj ha hc] at h2
  omega
theorem rot_mod {a : List Nat} (ha : a ≠ []) : ∀ (m k : Nat), k ≤ m → k < a.length → ∃ j, j < rootN a ∧ rot a j = rot a k := by
  intro m
  induction m with
  | zero =>
    intro k hk hl
    exact ⟨0, (rootN_is ha).1, by rw [show k = 0 by omega]⟩
  | succ m ih =>
    intro k hk hl
    by_cases h : k < rootN a
    · exact ⟨k, h, rfl⟩
    · have hp := (rootN_is ha).1
      obtain ⟨j, h1, h2⟩ := ih (k - rootN a) (by omega) (by omega)
      refine ⟨j, h1, ?_⟩
      rw [h2, ← rot_add_root ha (k := k - rootN a) (by omega)]
      congr 1
      omega
theorem fold_known {α : Type} [DecidableEq α] : ∀ (zs ys : List α), (∀ z ∈ zs, z ∈ ys) → zs.foldl insT ys = ys
  | [], ys, _ => rfl
  | z :: zs, ys, h => by
    have e : insT ys z = ys := by
      unfold insT
      rw [if_pos (h z List.mem_cons_self)]
    rw [List.foldl_cons, e]
    exact fold_known zs ys fun x hx => h x (List.mem_cons_of_mem _ hx)
theorem fold_new {α : Type} [DecidableEq α] : ∀ (xs ys : List α), (ys ++ xs).Nodup → xs.foldl insT ys = ys ++ xs
  | [], ys, _ => by simp
  | x :: xs, ys, h => by
    have hx : x ∉ ys := fun z => by
      have := List.nodup_append.mp h
      exact this.2.2 x z x List.mem_cons_self rfl
    have e : insT ys x = ys ++ [x] := by
      unfold insT
      rw [if_neg hx]
    rw [List.foldl_cons, e, fold_new xs (ys ++ [x]) (by simpa using h)]
    simp
theorem dedT_app {α : Type} [DecidableEq α] {ys zs : List α} (h : ys.Nodup) (hz : ∀ z ∈ zs, z ∈ ys) : dedT (ys ++ zs) = ys := by
  unfold dedT
  rw [List.foldl_append, fold_new ys [] (by simpa using h), List.nil_append]
  exact fold_known zs ys hz
theorem dedT_self {α : Type} [DecidableEq α] {ys : List α} (h : ys.Nodup) : dedT ys = ys := by
  have := dedT_app (zs := []) h (fun z hz => by simp at hz)
  simpa using this
/-- as many turned words as the root has letters -/
theorem turns_count {a : List Nat} (ha : a ≠ []) : (dedT ((List.range a.length).map fun k => St (rot a k))).length = rootN a := by
  have hn := (rootN_is ha).2.1
  have e : List.range a.length = List.range (rootN a) ++ List.range' (rootN a) (a.length - rootN a) := by
    rw [List.range_eq_range', List.range_eq_range', show a.length = rootN a + (a.length - rootN a) by omega]
    rw [← List.range'_append_1]
    simp
  rw [e, List.map_append, dedT_app]
  · simp
  · unfold List.Nodup
    rw [List.pairwise_map]
    refine (List.pairwise_lt_range (n := rootN a)).imp_of_mem fun {i j} hi hj hij => ?_
    intro z
    exact rot_inj ha hij (List.mem_range.mp hj) (St_inj.mp z)
  · intro z hz
    obtain ⟨k, hk, rfl⟩ := List.mem_map.mp hz
    have := List.mem_range'_1.mp hk
    obtain ⟨j, h1, h2⟩ := rot_mod ha k k (Nat.le_refl _) (by omega)
    exact List.mem_map.mpr ⟨j, List.mem_range.mpr h1, by rw [h2]⟩
theorem turn_mem {a b : List Nat} (ha : a ≠ []) : Conj a b ↔ b ∈ (List.range a.length).map (rot a) := by
  have hp : 0 < a.length := List.length_pos_iff.mpr ha
  constructor
  · intro h
    obtain ⟨k, hk, rfl⟩ := rot_of h
    by_cases hl : k < a.length
    · exact List.mem_map.mpr ⟨k, List.mem_range.mpr hl, rfl⟩
    · refine List.mem_map.mpr ⟨0, List.mem_range.mpr hp, ?_⟩
      rw [rot_zero, show k = a.length by omega, rot_full]
  · intro h
    obtain ⟨k, _, rfl⟩ := List.mem_map.mp h
    exact conj_rot a k
end RD

/-! The data layer, part v: writers compared with other things, and by !=; a new list that is changed and let go; text.index. -/
namespace RD
open PySem PySem.Spec PyProof.Rows L2
section
variable {X : Cx} {W : WX} {a b c e o : Expr} {es : List Expr} {pos p ps apos : Pos} {C : Addr} {wa wb we : WE} {wr : WA}
/-! ### a writer and a text, or None -/
def wEqWD (C : Addr) (i : Nat) (wb : WE) : WE := fun δ Q E => (∃ t w k, δ[i]? = some (wrS t C w k)) ∧ wb δ (fun y δ' => (∃ t w k, δ'[i]? = some (wrS t C w k)) ∧ (y = .none ∨ ∃ z, y = .str z) ∧ Q (.bool false) δ') E
theorem wEqWD_mono {i : Nat} (h : MonoE wb) : MonoE (wEqWD C i wb) := fun δ Q Q' E E' hq he ⟨h0, hh⟩ => ⟨h0, h _ _ _ _ _ (fun y δ' ⟨z1, z2, z3⟩ => ⟨z1, z2, hq _ _ z3⟩) he hh⟩
theorem eqWD_of {i : Nat} {B G F : Hp} {δ : DS} {σ : L2.St} {H : Hp} {Q : VK} (m : MonoE wb) (R : Rel X.K B G F δ σ H) (h : wEqWD C i wb δ (fun x δ' => ∀ G' H' v, Gr F G G' → Rel X.K B G' F δ' σ H' → Dq G' v x → Q v H') (xL X.K W B F G σ)) :
    tOp (fun x y H Q => spEqW C [x, y] H Q (fun _ _ _ => False)) (tVar i) (tD X.K W wb) σ H Q := by
  obtain ⟨⟨t0, w0, k0, e0⟩, h⟩ := h
  obtain ⟨dx0, q0, _⟩ := R.wr e0
  refine ⟨_, q0, B, G, F, δ, R, m _ _ _ _ _ (fun y δ1 h1 => ?_) (fun _ _ z => z) h⟩
  intro G1 H1 v g1 R1 d1
  obtain ⟨⟨t, w, k, e1⟩, hy, h2⟩ := h1
  obtain ⟨dx, q1, _, _, q4⟩ := R1.wr e1
  rw [q0] at q1
  cases q1
  refine ⟨_, dx, _, _, v, rfl, q4, .inr ⟨?_, h2 G1 H1 _ g1 R1 (.bl false)⟩⟩
  rcases hy with rfl | ⟨z, rfl⟩
  · cases d1
    exact .inl rfl
  · cases d1
    exact .inr ⟨_, rfl⟩
theorem de_eqWD {i k : Nat} (V : FnQ X.prog X.w X.K X.mg X.base C k) (hr : Room k X.A) (ha : PE X a (tVar i)) (hb : DE X W b wb) : DE X W (.Compare a [.Eq] [b] pos) (wEqWD C i wb) :=
  ⟨pe_imp (pe_cmpR (op_eqW V hr) ha hb.pe (nomark _)) fun σ H Q hh => by
    obtain ⟨B, G, F, δ, R, h⟩ := hh
    exact eqWD_of hb.mono R h, wEqWD_mono hb.mono⟩
theorem dt_eqWD {i k : Nat} (V : FnQ X.prog X.w X.K X.mg X.base C k) (hr : Room k X.A) (ha : PE X a (tVar i)) (hb : DE X W b wb) : DT X W (.Compare a [.Eq] [b] pos) (wB (wEqWD C i wb)) :=
  ⟨pt_imp (pt_cmpR (op_eqW V hr) ha hb.pe (nomark _)) fun σ H Q hh => by
    obtain ⟨B, G, F, δ, R, h⟩ := hh
    refine eqWD_of hb.mono R (wEqWD_mono hb.mono _ _ _ _ _ (fun x δ' z => ?_) (fun _ _ z => z) h)
    obtain ⟨c, rfl, z⟩ := z
    intro G' H' v g R' d
    cases d
    exact ⟨c, rfl, z G' H' g R'⟩, wB_mono (wEqWD_mono hb.mono)⟩
/-! ### a new writer and a writer -/
def wEqMW (C : Addr) (j : Nat) : WE := fun δ Q _ => ∃ u w' k', δ[j]? = some (wrS u C w' k') ∧ Q (.bool (decide (([] : List Nat) = w'))) δ
theorem wEqMW_mono {j : Nat} : MonoE (wEqMW C j) := fun δ Q Q' E E' hq _ ⟨u, w', k', h1, h2⟩ => ⟨u, w', k', h1, hq _ _ h2⟩
theorem eqMW_of {j : Nat} {B G F : Hp} {δ : DS} {σ : L2.St} {H : Hp} {Q : VK} {E : XC} (R : Rel X.K B G F δ σ H) (h : wEqMW C j δ (fun x δ' => ∀ G' H' v, Gr F G G' → Rel X.K B G' F δ' σ H' → Dq G' v x → Q v H') E) :
    tOp (fun x y H Q => spEqW C [x, y] H Q (fun _ _ _ => False)) (tDN X.K W (wMake C)) (tVar j) σ H Q := by
  obtain ⟨u, w', k', e1, h⟩ := h
  refine ⟨B, G, F, δ, R, fun t => ?_⟩
  intro G' H' q ob g R' n1 n2 lo hq ho
  obtain ⟨rfl, dx, rfl⟩ := ho
  obtain ⟨dx', r1, _, _, r4⟩ := R'.wr e1
  refine ⟨_, r1, q, dx, _, _, _, rfl, hq, .inl ⟨u, dx', _, _, rfl, r4, ?_⟩⟩
  have e : decide (St [] = St w') = decide (([] : List Nat) = w') := decide_eq_decide.mpr St_inj
  rw [e]
  exact h G' H' _ g R' (.bl _)
theorem de_eqMW {j k k2 : Nat} {x : Str} (V : FnQ X.prog X.w X.K X.mg X.base C k) (I : FnI X.prog X.w X.K X.mg X.base x C k2) (hr : Room k X.A) (hr2 : Room (k2 + 1) X.A) (hb : PE X b (tVar j)) (hg : Gl X x := by rfl) (hdb : (x == ("__debug__" : Str)) = false := by decide) :
    DE X W (.Compare (.Call (.Name x p) [] [] ps) [.Eq] [b] pos) (wEqMW C j) :=
  ⟨pe_imp (pe_cmpR (op_eqW V hr) (dn_make (W := W) I hr2 hg hdb).pe hb (nomark _)) fun σ H Q hh => by
    obtain ⟨B, G, F, δ, R, h⟩ := hh
    exact eqMW_of R h, wEqMW_mono⟩
/-! ### a list that a method gives, changed and let go -/
def wAppNew (C : Addr) (i : Nat) (T : PTW) : WS := fun δ D => ∃ t w k, δ[i]? = some (wrS t C w k) ∧ T w k [] (fun d w' k' => ∃ xs, d = .list xs ∧ xs.length < sizeLine ∧ D.nx (δ.set i (wrS t C w' k'))) (fun _ _ _ => False)
theorem st_appNew {m : Str} {i : Nat} {qs : List Str} {k : Nat} {T : PTW} {pl : Sem Bool} {x : Str} {kc : Nat} {mpos apos2 cpos epos : Pos} (c : WCls X.K C) (V : FnM X.prog X.w X.K X.mg X.base C m qs k T) (hr : Room k X.A) (ho : PE X o (tVar i)) (hn1 : m ≠ "letters" := by decide +kernel) (hn2 : m ≠ "kept" := by decide +kernel)
    (ht : eval (.Call (.Attribute o m apos) [] [] mpos) X.env = (do let ov ← eval o X.env; standAt apos.atName; let (g, fst) ← holding [ov] (getMethod ov m pl); callWith mpos g fst (backTo mpos (starEach [] X.env)) (backToKw mpos (keywordEach [] X.env))) := by rfl)
    (hbase : attributeBase (.Call (.Attribute o m apos) [] [] mpos) "append" X.env (eval (.Call (.Attribute o m apos) [] [] mpos) X.env) = eval (.Call (.Attribute o m apos) [] [] mpos) X.env := by rfl)
    (hfew : ((backTo cpos (starEach [.Constant (.str x) kc epos] X.env)).all (fun x => !x.1) && (backToKw cpos (keywordEach [] X.env)).all (fun x => x.1.isSome) && decide ([Expr.Constant (.str x) kc epos].length + ([] : List Keyword).length + (if ([] : List Keyword).isEmpty then 0 else 1) < 30)) = true := by rfl)
    (hline : (apos2.endLine == cpos.line) = true := by rfl) (hs : starEach [.Constant (.str x) kc epos] X.env = (false, eval (.Constant (.str x) kc epos) X.env) :: starEach [] X.env := by rfl) :
    DSt X W (.Expr (.Call (.Attribute (.Call (.Attribute o m apos) [] [] mpos) "append" apos2) [.Constant (.str x) kc epos] [] cpos) pos) (wAppNew C i T) := by
  obtain ⟨f, fd, F, hm, hb⟩ := V.ex
  refine ⟨ps_imp (ps_expr (pe_bm PySem.F.plainAttrs_list PySem.F.slot_list_append PySem.F.type_list_append mt_append (pe_methA0 (E := fun _ _ _ _ => False) ho c.cl hm F hr hb (fun σ pins H s e s' I c => passes_no pins σ H s e s' I c) ht) (pa_cons pe_str pa_nil hs) hbase hfew hline hs)) fun D σ H hh => ?_, fun δ D D' l ⟨t, w, k, h1, h2⟩ => ⟨t, w, k, h1, V.mono _ _ _ _ _ _ _ (fun d w k ⟨xs, z1, z2, z3⟩ => ⟨xs, z1, z2, l.nx _ z3⟩) (fun _ _ _ z => z) h2⟩⟩
  obtain ⟨B, G, F', δ, R, t, w, k, e0, h⟩ := hh
  obtain ⟨dx0, q0, n1, n2, q4⟩ := R.wr e0
  refine ⟨_, q0, t, dx0, _, rfl, q4, fld_no _ _ hn1 hn2, ?_⟩
  have s0 : Same (fun _ => none : Hp) (hide H t) := fun a o z => nomatch z
  refine ⟨fun _ => none, t, w, k, dx0, [], [], rfl, s0, q4, .nil, V.mono _ _ _ _ _ _ _ (fun d w' k' z => ?_) (fun _ _ _ z => z.elim) h⟩
  obtain ⟨xs, rfl, hl, z⟩ := z
  intro G' H' v dx' g hs' gh nt ht' dv
  cases dv with
  | @lst q vs _ hq hvs =>
    have hqt : q ≠ t := fun z => by
      subst z
      rw [nt] at hq
      cases hq
    have fr : hide H t q = none := by
      cases hH : hide H t q with
      | none => rfl
      | some ob =>
        exfalso
        have e1 := hs' q ob hH
        have e2 := gh q _ hq
        rw [e1] at e2
        cases e2
        have := g.n q ⟨_, hH, fun xs z => nomatch z⟩ rfl
        rw [this] at hq
        cases hq
    have hHq : H' q = some (.lst vs) := gh q _ hq
    have hql : vs.length < sizeLine := by
      rw [dpAll_len hvs]
      exact hl
    refine ⟨.inl ⟨rfl, _, SqL.of hHq⟩, q, vs, L2.V.str x, rfl, rfl, hHq, hql, ?_⟩
    have hs2 : Same (hide H t) (upd H' q (.lst (vs ++ [L2.V.str x]))) := fun a ob ea => by
      rw [upd_ne (ne_of_none ea fr)]
      exact hs' a ob ea
    obtain ⟨R', g'⟩ := R.own1 e0 q0 (Gr.refl _ G) hs2 ((same_hide R.g n1).trans hs2) n1 (by rw [upd_ne (Ne.symm hqt)]; exact ht') (k' := .wr t C (St w') (k' : Int)) ⟨rfl, dx', rfl⟩
    exact z G σ _ (Gr.refl F' G) R'
/-! ### text.index(text) -/
def indexF : PyData → PyData → Option PyData
  | .str a, .str b => match Builtin.Str.occurrences a b 0 a.length 1 with
    | i :: _ => some (.int (i : Nat))
    | [] => none
  | _, _ => none
def wIndexS (wa wb : WE) : WE := fun δ Q E => wa δ (fun x δ1 => (∃ t, x = .str t) ∧ wb δ1 (fun y δ2 => ∃ z, indexF x y = some z ∧ Q z δ2) E) E
theorem wIndexS_mono (ha : MonoE wa) (hb : MonoE wb) : MonoE (wIndexS wa wb) := fun δ Q Q' E E' hq he h => ha _ _ _ _ _ (fun x δ1 ⟨h0, h1⟩ => ⟨h0, hb _ _ _ _ _ (fun y δ2 ⟨z, z1, z2⟩ => ⟨z, z1, hq _ _ z2⟩) he h1⟩) he h
theorem de_indexS {cpos : Pos} (ha : DE X W o wa) (hb : DE X W e wb) (hbase : attributeBase o "index" X.env (eval o X.env) = eval o X.env := by rfl)
    (hfew : ((backTo cpos (starEach [e] X.env)).all (fun x => !x.1) && (backToKw cpos (keywordEach [] X.env)).all (fun x => x.1.isSome) && decide ([e].length + ([] : List Keyword).length + (if ([] : List Keyword).isEmpty then 0 else 1) < 30)) = true := by rfl)
    (hline : (apos.endLine == cpos.line) = true := by rfl) (hs : starEach [e] X.env = (false, eval e X.env) :: starEach [] X.env := by rfl) :
    DE X W (.Call (.Attribute o "index" apos) [e] [] cpos) (wIndexS wa wb) := by
  refine ⟨pe_imp (pe_bm PySem.F.plainAttrs_str PySem.F.slot_str_index PySem.F.type_str_index mt_sindex ha.pe (pa_cons hb.pe pa_nil hs) hbase hfew hline hs) fun σ H Q hh => ?_, wIndexS_mono ha.mono hb.mono⟩
  obtain ⟨B, G, F, δ, R, hh⟩ := hh
  refine ⟨B, G, F, δ, R, ha.mono _ _ _ _ _ (fun x δ1 h1 => ?_) (fun _ _ z => z) hh⟩
  intro G1 H1 v1 g1 R1 d1
  obtain ⟨⟨t, rfl⟩, h2⟩ := h1
  cases d1
  refine ⟨rfl, B, G1, F, δ1, R1, hb.mono _ _ _ _ _ (fun y δ2 h3 => ?_) (xL_up g1) h2⟩
  intro G2 H2 v2 g2 R2 d2
  obtain ⟨z, hz, q⟩ := h3
  cases d2 with
  | str b =>
    simp only [indexF] at hz
    split at hz
    · rename_i i rest ho
      cases hz
      exact ⟨t, b, i, rest, rfl, rfl, ho, q G2 H2 _ (g1.trans g2) R2 (.int _)⟩
    · cases hz
  | _ => cases hz
end
/-! ### != of writers -/
structure NeC (K : PySem.W.Frag) (C : Addr) : Prop where
  ne : PySem.W.findIn K (.ref C) "__ne__" = some (some (.builtin "object.__ne__"))
  mo : PySem.W.mroIn K C (.type "object") = some true
theorem on_slot : Slot "object" "__ne__" "object.__ne__" := Slot.of (owner := "object") (n := "__ne__") (by rw [typeLookup_type, builtinLookup_eq_fast]; kernel_rfl) (by decide +kernel) (by decide +kernel) (by decide +kernel) (.inl (by decide +kernel)) (by rw [isSubtype_type]; kernel_rfl)
section
variable {X : Cx} {W : WX} {a b c e o : Expr} {pos : Pos} {C : Addr}
def rNeW (C : Addr) : R2 := fun x y H Q => ∃ (t dx : Addr) (z : Str) (k : Int) (u dx' : Addr) (z' : Str) (k' : Int), x = .ref t ∧ y = .ref u ∧ H t = some (.ins C dx (fldW z k)) ∧ H u = some (.ins C dx' (fldW z' k')) ∧ Q (.bl (!decide (z = z'))) H
theorem op_neW {k : Nat} (V : FnQ X.prog X.w X.K X.mg X.base C k) (N : NeC X.K C) (hr : Room (k + 1) X.A) : OpR X (compareOp .NotEq) (rNeW C) := by
  intro pins s σ H x y v u Q I rx ry h
  obtain ⟨f, fd, F, hm, hb⟩ := V.ex
  obtain ⟨t, dx, z, kk, u', dx', z', k', rfl, rfl, ht, hu, hq⟩ := h
  cases (show v = Value.ref t from rx)
  cases (show u = Value.ref u' from ry)
  obtain ⟨mA, J, _⟩ := ins_get I.hok ht
  obtain ⟨od, J, _⟩ := J.look
  obtain ⟨mB, J', _⟩ := ins_get I.hok hu
  obtain ⟨od', J', _⟩ := J'.look
  have kin := I.kIn
  have hu0 := hr.units0
  have hu1 := hr.in1.units0
  have fin : wpAny (model X.prog X.w) X.A.in1 (call (.ref f) [.ref t, .ref u']) (fun v s' => ∃ b, v = .bool b ∧ EP X pins σ Q (.bool (!b)) s') X.xe s := by
    have bd := hb s [.ref t, .ref u'] I.kIn rfl
    refine wpAny_call (codeAny_mono (F.run X.A.in1 X.stack s H ⟨[.ref t, .ref u'], []⟩ [.ref t, .ref u'] [.ref t, .ref u'] (fun v H' => ∃ b, v = .bl b ∧ Q (.bl (!b)) H') (fun _ _ _ => False) hr.in1 I.env0.in1 bd (.cons rfl (.cons rfl .nil)) ⟨t, dx, z, kk, _, rfl, ht, .inl ⟨u', dx', z', k', rfl, hu, _, rfl, hq⟩⟩) fun rr s' hq => ?_)
    cases rr with
    | error ee => exact passes_no pins σ H s ee s' I hq
    | ok fl =>
      cases fl with
      | ret v =>
        obtain ⟨z', H', I', rz, b, rfl, q⟩ := I.after hq
        cases rz
        exact ⟨b, rfl, .bl (!b), H', I', rfl, q⟩
      | next => exact hq.elim
      | brk => exact hq.elim
      | cont => exact hq.elim
  have one : wpAny (model X.prog X.w) X.A (tryCompare (.ref t) "__ne__" (.ref u')) (fun r s' => ∃ v, r = some v ∧ EP X pins σ Q v s') X.xe s := by
    unfold tryCompare
    refine wpAny_bind ?_
    simp only [callSpecialIfBound?, bindSpecialIfBound?]
    refine wpAny_holding (wpAny_bind (wpAny_bind (wpAny_bind (J.type.here ((PySem.W.looks_findIn kin N.ne).here ?_)))))
    refine wpAny_bind (wpAny_askSetting (wpAny_ite ?_))
    have cal : wpAny (model X.prog X.w) X.A (call (.builtin "object.__ne__") [.ref t, .ref u']) (fun v s' => ∃ b, v = .bool b ∧ EP X pins σ Q (.bool b) s') X.xe s := by
      refine wpAny_call (codeAny_call_builtin on_slot.plain PySem.F.cmpEntry_ne (@PySem.W.check_slot (model X.prog X.w) _ _ s "object.__ne__" "object" "__ne__" (.ref t) [.ref u'] [] _ PySem.F.cmpKind_ne PySem.F.cmpSplit_ne (J.type.andThen (PySem.W.looks_mroIn kin N.mo)) (PySem.F.cmpArgs_ne _ _) ?_))
      unfold Builtin.«object.__ne__»
      have sa : slotArgs "__ne__" 1 ⟨[.ref t, .ref u'], []⟩ = pure (Value.ref t, [Value.ref u']) := rfl
      rw [sa]
      refine wpAny_bind (wpAny_pure ?_)
      show wpAny _ _ (cRoomFor "comparison" [Value.ref t, Value.ref u'] >>= _) _ _ _
      refine wpAny_bind (wpAny_cRoomFor hu1 ?_)
      refine wpAny_bind (PySem.W.ifBound_K kin J hm.at_ hm.fn (wpAny_mono fin (fun v s' hv => ?_) fun _ _ e => e))
      obtain ⟨b, rfl, hq⟩ := hv
      show wpAny _ _ (truthy (Value.bool b) >>= _) _ _ _
      refine wpAny_bind (wpAny_truthy_bool ?_)
      exact wpAny_pure ⟨_, rfl, hq⟩
    have goOn : wpAny (model X.prog X.w) X.A (call (.builtin "object.__ne__") ([Value.ref t] ++ [Value.ref u']) >>= fun v => pure (some v)) (fun r s' => wpAny (model X.prog X.w) X.A (match r with | some Value.notImplemented => pure none | none => pure none | some v => pure (some v)) (fun r s' => ∃ v, r = some v ∧ EP X pins σ Q v s') X.xe s') X.xe s := by
      refine wpAny_bind (wpAny_mono cal (fun v s' hv => ?_) fun _ _ e => e)
      obtain ⟨b, rfl, hq⟩ := hv
      exact wpAny_pure (wpAny_pure ⟨_, rfl, hq⟩)
    have bd : bindSpecial (.builtin "object.__ne__") (.ref t) = pure (.builtin "object.__ne__", [Value.ref t]) := on_slot.bind (.ref t)
    split
    · exact wpAny_bind (by rw [bd]; exact wpAny_pure (wpAny_pure (by exact goOn)))
    · exact wpAny_tryCatch (wpAny_bind (by rw [bd]; exact wpAny_pure (wpAny_pure (by exact goOn))))
  show wpAny _ _ (richCompare .NotEq _ _) _ _ _
  unfold richCompare
  simp only [oneThing_ref]
  refine wpAny_holding (wpAny_bind (wpAny_cRoomFor hu0 ?_))
  refine wpAny_bind (J.type.here (wpAny_bind (J'.type.here ?_)))
  rw [show (Value.ref C != Value.ref C) = false by simp]
  simp only [Bool.false_eq_true, if_false]
  refine wpAny_bind (wpAny_pure ?_)
  simp only [Bool.false_eq_true, if_false]
  refine wpAny_bind (wpAny_mono one (fun r s' zz => ?_) fun _ _ e => e)
  obtain ⟨v, rfl, hq⟩ := zz
  exact wpAny_pure hq
def wNeWW (C : Addr) (i j : Nat) : WE := fun δ Q _ => ∃ t w k u w' k', δ[i]? = some (wrS t C w k) ∧ δ[j]? = some (wrS u C w' k') ∧ Q (.bool (!decide (w = w'))) δ
theorem wNeWW_mono {i j : Nat} : MonoE (wNeWW C i j) := fun δ Q Q' E E' hq _ ⟨t, w, k, u, w', k', h1, h2, h3⟩ => ⟨t, w, k, u, w', k', h1, h2, hq _ _ h3⟩
theorem neWW_of {i j : Nat} {B G F : Hp} {δ : DS} {σ : L2.St} {H : Hp} {K : PySem.W.Frag} {Q : VK} {E : XC} (R : Rel K B G F δ σ H) (h : wNeWW C i j δ (fun x δ' => ∀ G' H' v, Gr F G G' → Rel K B G' F δ' σ H' → Dq G' v x → Q v H') E) : tOp (rNeW C) (tVar i) (tVar j) σ H Q := by
  obtain ⟨t, w, k, u, w', k', e1, e2, h⟩ := h
  obtain ⟨dx, q1, _, _, q4⟩ := R.wr e1
  obtain ⟨dx', r1, _, _, r4⟩ := R.wr e2
  refine ⟨_, q1, _, r1, t, dx, _, _, u, dx', _, _, rfl, rfl, q4, r4, ?_⟩
  have e : decide (St w = St w') = decide (w = w') := decide_eq_decide.mpr St_inj
  rw [e]
  exact h G H _ (Gr.refl F G) R (.bl _)
theorem dt_neWW {i j k : Nat} (V : FnQ X.prog X.w X.K X.mg X.base C k) (N : NeC X.K C) (hr : Room (k + 1) X.A) (ha : PE X a (tVar i)) (hb : PE X b (tVar j)) : DT X W (.Compare a [.NotEq] [b] pos) (wB (wNeWW C i j)) :=
  ⟨pt_imp (pt_cmpR (op_neW V N hr) ha hb (nomark _)) fun σ H Q hh => by
    obtain ⟨B, G, F, δ, R, h⟩ := hh
    refine neWW_of R (wNeWW_mono _ _ _ _ _ (fun x δ' z => ?_) (fun _ _ z => z) h)
    obtain ⟨c, rfl, z⟩ := z
    intro G' H' v g R' d
    cases d
    exact ⟨c, rfl, z G' H' g R'⟩, wB_mono wNeWW_mono⟩
end
end RD
namespace RD
open PySem L2
section
variable {δ : DS} {Q : PyData → DS → Prop} {QN : OK → DS → Prop} {E : XC} {D : WEnds} {i j : Nat} {C t u : Addr} {w w' : List Nat} {k k' : Nat} {wa wb : WE} {s1 : WS} {T : PTW}
theorem u_eqWD0 (h : wEqWD C i wb δ Q E) : wEqWD C i wb δ Q E := h
theorem e_eqWD (h0 : δ[i]? = some (wrS t C w k)) (h : wb δ (fun y δ' => (∃ t w k, δ'[i]? = some (wrS t C w k)) ∧ (y = .none ∨ ∃ z, y = .str z) ∧ Q (.bool false) δ') E) : wEqWD C i wb δ Q E := ⟨⟨t, w, k, h0⟩, h⟩
theorem u_eqMW0 (h : wEqMW C j δ Q E) : wEqMW C j δ Q E := h
theorem e_eqMW (h : δ[j]? = some (wrS u C w' k')) (q : Q (.bool (decide (([] : List Nat) = w'))) δ) : wEqMW C j δ Q E := ⟨u, w', k', h, q⟩
theorem u_neWW0 (h : wNeWW C i j δ Q E) : wNeWW C i j δ Q E := h
theorem e_neWW (h1 : δ[i]? = some (wrS t C w k)) (h2 : δ[j]? = some (wrS u C w' k')) (q : Q (.bool (!decide (w = w'))) δ) : wNeWW C i j δ Q E := ⟨t, w, k, u, w', k', h1, h2, q⟩
theorem s_appNew0 (h : wSeq (wAppNew C i T) s1 δ D) : wSeq (wAppNew C i T) s1 δ D := h
theorem s_appNew (e : δ[i]? = some (wrS t C w k)) (h : T w k [] (fun d w' k' => ∃ xs, d = .list xs ∧ xs.length < sizeLine ∧ s1 (δ.set i (wrS t C w' k')) D) (fun _ _ _ => False)) : wSeq (wAppNew C i T) s1 δ D := ⟨t, w, k, e, h⟩
theorem u_indexS (h : wa δ (fun x δ1 => (∃ t, x = .str t) ∧ wb δ1 (fun y δ2 => ∃ z, indexF x y = some z ∧ Q z δ2) E) E) : wIndexS wa wb δ Q E := h
theorem u_lenSet (h : wa δ (fun x δ' => ∃ zs : List Str, x = .list (zs.map PyData.str) ∧ zs.length < 4000 ∧ Q (.int (dedT zs).length) δ') E) : wLenSet wa δ Q E := h
theorem u_sortSet (h : wa δ (fun x δ' => ∃ zs : List Str, x = .list (zs.map PyData.str) ∧ zs.length < 4000 ∧ ∀ out : List Str, out.Perm (dedT zs) → Q (.list ((out.mergeSort leS).map PyData.str)) δ') E) : wSortSet wa δ Q E := h
theorem u_make {E : XC} (h : ∀ b, QN (.wr b C (St []) 0) δ) : wMake C δ QN E := h
end
theorem words_strs (L : List (List Nat)) : L.map S = (L.map St).map PyData.str := by
  rw [List.map_map]
  rfl
theorem cut_neg {l : List Nat} {n : Nat} (h0 : 0 < n) : cut l (some (-(n : Int))) none = l.drop (l.length - n) := by
  unfold cut
  have h1 : HT.sIx l.length l.length none = l.length := rfl
  rw [h1]
  have h2 : HT.sIx l.length 0 (some (-(n : Int))) = l.length - n := by
    unfold HT.sIx
    simp only
    split <;> omega
  rw [h2, List.take_of_length_le (by rw [List.length_drop]; omega)]
theorem sl_back {l : List Nat} {n : Nat} (h0 : 0 < n) (h : l.length ≤ 100000) : slD (S l) (some (-(n : Int))) none = some (S (l.drop (l.length - n))) := by
  rw [sl_S h, cut_neg h0]
end RD

/-! Squares at the end, words free of squares. -/
namespace RD
open PySem L2
def freeQ (a : List Nat) : Prop := ∀ s h, 0 < h → s + 2 * h ≤ a.length → ¬ PerW a s (s + 2 * h) h
theorem free_iff {a : List Nat} : (sqL a).isEmpty = true ↔ freeQ a := by
  rw [List.isEmpty_iff]
  constructor
  · intro e s h h0 hl hp
    have : (s, s + 2 * h) ∈ sqL a := mem_sq.mpr ⟨h, h0, rfl, hl, hp⟩
    rw [e] at this
    cases this
  · intro hf
    cases hc : sqL a with
    | nil => rfl
    | cons p t =>
      exfalso
      obtain ⟨s, e⟩ := p
      obtain ⟨h, h0, rfl, hl, hp⟩ := mem_sq.mp (by rw [hc]; exact List.mem_cons_self : (s, e) ∈ sqL a)
      exact hf s h h0 hl hp
theorem end_iff {v : List Nat} : endSq v = true ↔ ∃ s h, 0 < h ∧ s + 2 * h = v.length ∧ PerW v s v.length h := by
  unfold endSq
  rw [List.any_eq_true]
  constructor
  · rintro ⟨h, hm, hp⟩
    have := List.mem_range'_1.mp hm
    refine ⟨v.length - 2 * h, h, by omega, by omega, ?_⟩
    have e : v.length - 2 * h + 2 * h = v.length := by omega
    have hs := sq_iff (a := v) (s := v.length - 2 * h) (h := h) (by omega)
    rw [e] at hs
    refine hs.mp ?_
    unfold sqB
    unfold perB at hp
    have hp := of_decide_eq_true hp
    rw [decide_eq_true_eq, e, List.take_length, List.drop_take, show v.length - 2 * h + h - (v.length - 2 * h) = h by omega]
    rw [List.drop_drop, List.length_drop, show v.length - (v.length - 2 * h) - h = h by omega] at hp
    exact hp.symm
  · rintro ⟨s, h, h0, e, hp⟩
    refine ⟨h, List.mem_range'_1.mpr (by omega), ?_⟩
    have hs := sq_iff (a := v) (s := s) (h := h) (by omega)
    rw [e] at hs
    have hq := hs.mpr hp
    unfold sqB at hq
    unfold perB
    have hq := of_decide_eq_true hq
    rw [e, List.take_length, List.drop_take, show s + h - s = h by omega] at hq
    rw [decide_eq_true_eq, show v.length - 2 * h = s by omega, List.drop_drop, List.length_drop, show v.length - s - h = h by omega]
    exact hq.symm
theorem end_sq {v : List Nat} : ((sqL v).filter fun p => decide (p.2 = v.length)).isEmpty = !endSq v := by
  rw [Bool.eq_iff_iff, Bool.not_eq_true', List.isEmpty_iff, List.filter_eq_nil_iff]
  constructor
  · intro h
    cases hc : endSq v with
    | false => rfl
    | true =>
      exfalso
      obtain ⟨s, k, h0, e, hp⟩ := end_iff.mp hc
      exact h (s, v.length) (mem_sq.mpr ⟨k, h0, by omega, Nat.le_refl _, hp⟩) (decide_eq_true rfl)
  · rintro h ⟨s, e⟩ hm hd
    have hd : e = v.length := of_decide_eq_true hd
    obtain ⟨k, h0, e1, e2, hp⟩ := mem_sq.mp hm
    have : endSq v = true := end_iff.mpr ⟨s, k, h0, by omega, by rw [← hd]; exact hp⟩
    rw [h] at this
    cases this
theorem perW_snoc {w : List Nat} {c s k : Nat} (hk : s + 2 * k ≤ w.length) : PerW (w ++ [c]) s (s + 2 * k) k ↔ PerW w s (s + 2 * k) k := by
  unfold PerW
  constructor
  · intro h i h1 h2
    have := h i h1 h2
    rwa [List.getElem?_append_left (by omega), List.getElem?_append_left (by omega)] at this
  · intro h i h1 h2
    rw [List.getElem?_append_left (by omega), List.getElem?_append_left (by omega)]
    exact h i h1 h2
theorem free_snoc {w : List Nat} {c : Nat} : freeQ (w ++ [c]) ↔ freeQ w ∧ endSq (w ++ [c]) = false := by
  have hl : (w ++ [c]).length = w.length + 1 := by simp
  constructor
  · intro h
    refine ⟨fun s k h0 hk hp => h s k h0 (by omega) ((perW_snoc hk).mpr hp), ?_⟩
    cases hc : endSq (w ++ [c]) with
    | false => rfl
    | true =>
      exfalso
      obtain ⟨s, k, h0, e, hp⟩ := end_iff.mp hc
      exact h s k h0 (by omega) (by rw [e]; exact hp)
  · rintro ⟨h1, h2⟩ s k h0 hk hp
    by_cases hs : s + 2 * k ≤ w.length
    · exact h1 s k h0 hs ((perW_snoc hs).mp hp)
    · have e : s + 2 * k = (w ++ [c]).length := by omega
      have : endSq (w ++ [c]) = true := end_iff.mpr ⟨s, k, h0, e, by rw [← e]; exact hp⟩
      rw [h2] at this
      cases this
theorem get_mid {x y z : List Nat} {j : Nat} (h1 : x.length ≤ j) (h2 : j < x.length + y.length) : (x ++ y ++ z)[j]? = y[j - x.length]? := by
  rw [List.append_assoc, List.getElem?_append_right h1, List.getElem?_append_left (by omega)]
theorem free_mid {x y z : List Nat} (h : freeQ (x ++ y ++ z)) : freeQ y := fun s k h0 hk hp => by
  refine h (x.length + s) k h0 (by simp; omega) fun i h1 h2 => ?_
  have := hp (i - x.length) (by omega) (by omega)
  rw [get_mid (by omega) (by omega), get_mid (by omega) (by omega), this]
  congr 1
  omega
theorem free_inf {p a : List Nat} (h : freeQ a) (hi : infixB p a = true) : freeQ p := by
  obtain ⟨x, z, rfl⟩ := infixB_iff.mp hi
  exact free_mid (by simpa using h)
theorem free_drop {a : List Nat} (n : Nat) (h : freeQ a) : freeQ (a.drop n) := by
  have e : a = a.take n ++ a.drop n ++ [] := by rw [List.append_nil, List.take_append_drop]
  rw [e] at h
  exact free_mid h
theorem free_rev {a : List Nat} (h : freeQ a) : freeQ a.reverse := fun s k h0 hk hp => by
  rw [List.length_reverse] at hk
  refine h (a.length - s - 2 * k) k h0 (by omega) fun i h1 h2 => ?_
  have := hp (a.length - 1 - i - k) (by omega) (by omega)
  rw [List.getElem?_reverse (by omega), List.getElem?_reverse (by omega)] at this
  rw [show a.length - 1 - (a.length - 1 - i - k) = i + k by omega, show a.length - 1 - (a.length - 1 - i - k + k) = i by omega] at this
  exact this.symm
theorem free_nil : freeQ [] := fun s k h0 hk _ => by
  simp at hk
  omega
theorem mem_freeW : ∀ {n : Nat} {w : List Nat}, w ∈ freeW n ↔ w.length = n ∧ (∀ c ∈ w, c ∈ abc) ∧ freeQ w
  | 0, w => by
    constructor
    · intro h
      have : w = [] := by simpa [freeW] using h
      subst this
      exact ⟨rfl, by simp, free_nil⟩
    · rintro ⟨h, _⟩
      rw [List.length_eq_zero_iff.mp h]
      simp [freeW]
  | n + 1, w => by
    constructor
    · intro h
      obtain ⟨h1, h2⟩ := freeW_mem h
      refine ⟨h1, h2, ?_⟩
      simp only [freeW, List.mem_flatMap, List.mem_filter, List.mem_map] at h
      obtain ⟨v, hv, ⟨c, hc, rfl⟩, he⟩ := h
      have hv := (mem_freeW.mp hv).2.2
      exact free_snoc.mpr ⟨hv, by simpa using he⟩
    · rintro ⟨h1, h2, h3⟩
      have hne : w ≠ [] := fun z => by rw [z] at h1; simp at h1
      have e := List.dropLast_concat_getLast hne
      generalize hv : w.dropLast = v at e
      generalize w.getLast hne = c at e
      subst e
      obtain ⟨h4, h5⟩ := free_snoc.mp h3
      simp only [freeW, List.mem_flatMap, List.mem_filter, List.mem_map]
      exact ⟨v, mem_freeW.mpr ⟨by simpa using h1, fun x hx => h2 x (by simp [hx]), h4⟩, ⟨c, h2 c (by simp), rfl⟩, by simp [h5]⟩
theorem lt_snoc : ∀ {w v : List Nat}, w.length = v.length → w < v → ∀ x y : List Nat, w ++ x < v ++ y
  | [], [], _, h, _, _ => absurd h (List.lt_irrefl _)
  | a :: w, b :: v, hl, h, x, y => by
    rw [List.cons_append, List.cons_append, List.cons_lt_cons_iff]
    rcases List.cons_lt_cons_iff.mp h with z | ⟨z1, z2⟩
    · exact .inl z
    · exact .inr ⟨z1, lt_snoc (by simpa using hl) z2 x y⟩
theorem freeW_sorted : ∀ n, (freeW n).Pairwise (· < ·)
  | 0 => List.pairwise_singleton _ _
  | n + 1 => by
    unfold freeW
    rw [List.pairwise_flatMap]
    refine ⟨fun w hw => ?_, (freeW_sorted n).imp_of_mem fun {v w} hv hw hlt x hx y hy => ?_⟩
    · refine List.Pairwise.filter _ ?_
      have e : ∀ c d : Nat, c < d → w ++ [c] < w ++ [d] := fun c d h => List.append_left_lt (List.cons_lt_cons_iff.mpr (.inl h))
      simp only [List.map_cons, List.map_nil, List.pairwise_cons, List.mem_cons, List.not_mem_nil, or_false]
      refine ⟨fun a ha => ?_, fun a ha => ?_, fun a ha => ha.elim, List.Pairwise.nil⟩
      · rcases ha with rfl | rfl
        · exact e _ _ (by decide)
        · exact e _ _ (by decide)
      · subst ha
        exact e _ _ (by decide)
    · obtain ⟨c, _, rfl⟩ := List.mem_map.mp (List.mem_filter.mp hx).1
      obtain ⟨d, _, rfl⟩ := List.mem_map.mp (List.mem_filter.mp hy).1
      exact lt_snoc (by rw [(freeW_mem hv).1, (freeW_mem hw).1]) hlt _ _
theorem lt_nodup {L : List (List Nat)} (h : L.Pairwise (· < ·)) : L.Nodup := h.imp fun {a b} hab e => by
  subst e
  exact List.lt_irrefl _ hab
/-- a set of ascending words, sorted, is the words -/
theorem sort_set {L : List (List Nat)} (h : L.Pairwise (· < ·)) {out : List Str} (hp : out.Perm (dedT (L.map St))) : (out.mergeSort leS).map PyData.str = L.map S := by
  have hn := lt_nodup h
  have hS : (L.map St).Nodup := by
    unfold List.Nodup
    rw [List.pairwise_map]
    exact hn.imp fun {a b} hab e => hab (St_inj.mp e)
  rw [dedT_self hS] at hp
  have e : out = (out.map fun z => z.cps.toList).map St := by
    rw [List.map_map]
    conv => lhs; rw [← List.map_id out]
    refine List.map_congr_left fun z _ => ?_
    exact (str_eta z).symm
  generalize out.map (fun z => z.cps.toList) = M at e
  subst e
  rw [sort_keys]
  congr 1
  have hM : M.Nodup := by
    have := hp.nodup_iff.mpr hS
    unfold List.Nodup at this ⊢
    rw [List.pairwise_map] at this
    exact this.imp fun {a b} hab e => hab (by rw [e])
  refine sortW_ext hM h fun s => ?_
  have := hp.mem_iff (a := St s)
  simp only [List.mem_map] at this
  constructor
  · intro hs
    obtain ⟨v, hv, ev⟩ := this.mp ⟨s, hs, rfl⟩
    rw [← St_inj.mp ev]
    exact hv
  · intro hs
    obtain ⟨v, hv, ev⟩ := this.mpr ⟨s, hs, rfl⟩
    rw [← St_inj.mp ev]
    exact hv
/-- all words of three letters -/
def all3 : Nat → List (List Nat)
  | 0 => [[]]
  | n + 1 => (all3 n).flatMap fun w => abc.map fun c => w ++ [c]
theorem all3_len : ∀ n, (all3 n).length = 3 ^ n
  | 0 => rfl
  | n + 1 => by
    have key : ∀ L : List (List Nat), (L.flatMap fun w => abc.map fun c => w ++ [c]).length = L.length * 3 := fun L => by
      induction L with
      | nil => rfl
      | cons x L ih => rw [List.flatMap_cons, List.length_append, ih, List.length_cons, List.length_map]; simp; omega
    rw [all3, key, all3_len n, Nat.pow_succ]
theorem all3_mem : ∀ {n : Nat} {w : List Nat}, w ∈ all3 n → w.length = n ∧ ∀ c ∈ w, c ∈ abc
  | 0, w, h => by
    have : w = [] := by simpa [all3] using h
    subst this
    simp
  | n + 1, w, h => by
    simp only [all3, List.mem_flatMap, List.mem_map] at h
    obtain ⟨v, hv, c, hc, rfl⟩ := h
    obtain ⟨h1, h2⟩ := all3_mem hv
    refine ⟨by simp [h1], fun x hx => ?_⟩
    rcases List.mem_append.mp hx with q | q
    · exact h2 x q
    · have : x = c := by simpa using q
      rw [this]
      exact hc
theorem flat_filter {α β : Type} (q : α → Bool) (g : α → List β) : ∀ L : List α, (L.filter q).flatMap g = L.flatMap fun x => if q x = true then g x else []
  | [] => rfl
  | x :: L => by
    rw [List.filter_cons]
    split
    · rename_i h
      rw [List.flatMap_cons, List.flatMap_cons, if_pos h, flat_filter q g L]
    · rename_i h
      rw [List.flatMap_cons, if_neg h, List.nil_append, flat_filter q g L]
theorem all_free : ∀ n, (all3 n).filter (fun w => (sqL w).isEmpty) = freeW n
  | 0 => rfl
  | n + 1 => by
    rw [all3, freeW, ← all_free n, flat_filter, List.filter_flatMap]
    congr 1
    funext w
    by_cases h : (sqL w).isEmpty = true
    · rw [if_pos h]
      refine List.filter_congr fun v hv => ?_
      obtain ⟨c, _, rfl⟩ := List.mem_map.mp hv
      rw [Bool.eq_iff_iff, free_iff, free_snoc, Bool.not_eq_true']
      exact ⟨fun z => z.2, fun z => ⟨free_iff.mp h, z⟩⟩
    · rw [if_neg h, List.filter_eq_nil_iff]
      rintro v hv hf
      obtain ⟨c, _, rfl⟩ := List.mem_map.mp hv
      exact h (free_iff.mpr (free_snoc.mp (free_iff.mp hf)).1)
end RD

/-! The data layer, part u: new lists, each changed in a loop and let go. -/
namespace RD
open PySem PySem.Spec PyProof.Rows L2
mutual
theorem dq_fun {G : Hp} : ∀ {v : V} {d d' : PyData}, Dq G v d → Dq G v d' → d = d'
  | _, _, _, .non, h => by cases h; rfl
  | _, _, _, .bl b, h => by cases h; rfl
  | _, _, _, .int i, h => by cases h; rfl
  | _, _, _, .str x, h => by cases h; rfl
  | _, _, _, .lst h1 h2, h => by
    cases h with
    | lst h3 h4 =>
      rw [h1] at h3
      cases h3
      rw [dqAll_fun h2 h4]
    | tup h3 h4 =>
      rw [h1] at h3
      cases h3
  | _, _, _, .tup h1 h2, h => by
    cases h with
    | lst h3 h4 =>
      rw [h1] at h3
      cases h3
    | tup h3 h4 =>
      rw [h1] at h3
      cases h3
      rw [dqAll_fun h2 h4]
theorem dqAll_fun {G : Hp} : ∀ {vs : List V} {ds ds' : List PyData}, DqAll G vs ds → DqAll G vs ds' → ds = ds'
  | _, _, _, .nil, h => by cases h; rfl
  | _, _, _, .cons h1 h2, h => by
    cases h with
    | cons h3 h4 => rw [dq_fun h1 h3, dqAll_fun h2 h4]
end
theorem dqAll_flat {G G' : Hp} : ∀ {vs : List V} {ds : List PyData}, DqAll G vs ds → ds.all flatD = true → DqAll G' vs ds
  | _, _, .nil, _ => .nil
  | _, _, .cons h t, f => by
    rw [List.all_cons, Bool.and_eq_true] at f
    exact .cons (dq_flat h f.1) (dqAll_flat t f.2)
theorem Rel.blank {K : PySem.W.Frag} {B G F : Hp} {δ : DS} {σ : L2.St} {H : Hp} (R : Rel K B G F δ σ H) (i : Nat) : Rel K B G F (δ.set i .no) σ H := by
  cases h : σ[i]? with
  | none =>
    have hl : δ.length ≤ i := by
      rw [R.len]
      exact List.getElem?_eq_none_iff.mp h
    rw [List.set_eq_of_length_le hl]
    exact R
  | some o =>
    have := R.setN (i := i) (o := o)
    rw [set_same h] at this
    exact this
theorem blank_own {δ : DS} {i m : Nat} {k : OK} (e : (δ.set i .no)[m]? = some (.own k)) : m ≠ i ∧ δ[m]? = some (.own k) := by
  by_cases h : i = m
  · subst h
    by_cases hl : i < δ.length
    · rw [List.getElem?_set_self hl] at e
      cases e
    · rw [List.getElem?_eq_none_iff.mpr (by simp; omega)] at e
      cases e
  · rw [List.getElem?_set_ne h] at e
    exact ⟨Ne.symm h, e⟩
theorem Loose.blank {δ : DS} {σ : L2.St} {i : Nat} {p : Addr} {o : Option V} (h : Loose δ σ p) : Loose (δ.set i .no) (σ.set i o) p := fun m k e => by
  obtain ⟨h1, h2⟩ := blank_own e
  rw [List.getElem?_set_ne (Ne.symm h1)]
  exact h m k h2
theorem Loose.blank0 {δ : DS} {σ : L2.St} {i : Nat} {p : Addr} (h : Loose δ σ p) : Loose (δ.set i .no) σ p := fun m k e => h m k (blank_own e).2
theorem walk_own {K : PySem.W.Frag} {q : Addr} {vs : List V} : Walk (Itl K q) vs.length (fun H => H q = some (.lst vs)) (fun i H x H' => H' = H ∧ vs[i]? = some x) := by
  refine ⟨fun i H hi g => ?_, fun H g => ?_, fun i H x H' hi g y => ?_⟩
  · exact ⟨vs, vs[i], SqL.of g, List.getElem?_eq_getElem hi⟩
  · exact ⟨vs, SqL.of g, Nat.le_refl _⟩
  · exact ⟨y.1, y.2 vs (SqL.of g)⟩
section
variable {X : Cx} {W : WX} {tg e o : Expr} {es : List Expr} {pos p apos cpos bpos spos epos : Pos} {wr : WA}
/-- for x in f(..): x.append(None), where f gives new lists -/
def wForApp (i : Nat) (T : PT) (w : WA) : WS := fun δ D => w δ (fun ds δ' => ds.all flatD = true ∧ i < δ'.length ∧ T ds (fun d => ∃ xs : List (List PyData), d = .list (xs.map PyData.list) ∧ (∀ x ∈ xs, x.length ≤ 1000) ∧ xs.length ≤ 1000 ∧ D.nx (δ'.set i .no)) (fun _ => False)) D.ex
theorem wForApp_mono {i : Nat} {T : PT} (hT : MonoP T) (h : MonoE wr) : MonoS (wForApp i T wr) := fun δ D D' l hh => h _ _ _ _ _ (fun ds δ' ⟨h1, h2, h3⟩ => ⟨h1, h2, hT _ _ _ _ _ (fun d ⟨xs, z1, z2, z3, z4⟩ => ⟨xs, z1, z2, z3, l.nx _ z4⟩) (fun _ z => z) h3⟩) l.ex hh
theorem st_forApp {x : Str} {i k kc : Nat} {ps : List Str} {T : PT} (C : Fn X.prog X.w X.K X.mg X.base x ps k T) (tk : L2N.Takes X W) (hr : Room k X.A) (ha : DA X W (e :: es) wr) (hp : PassesOwn (model X.prog X.w) X.A X.env X.xe) (hc : X.calm = true) (hg : PG X tg (gName i)) (ho : PE X o (tVar i))
    (hgx : Gl X x := by rfl) (hdb : (x == ("__debug__" : Str)) = false := by decide) (hs : starEach (e :: es) X.env = (false, eval e X.env) :: starEach es X.env := by rfl) (hpl : (backTo cpos (starEach es X.env)).any (·.1) = false := by rfl)
    (hbase : attributeBase o "append" X.env (eval o X.env) = eval o X.env := by rfl)
    (hfew : ((backTo bpos (starEach [.Constant .none kc epos] X.env)).all (fun x => !x.1) && (backToKw bpos (keywordEach [] X.env)).all (fun x => x.1.isSome) && decide ([Expr.Constant .none kc epos].length + ([] : List Keyword).length + (if ([] : List Keyword).isEmpty then 0 else 1) < 30)) = true := by rfl)
    (hline : (apos.endLine == bpos.line) = true := by rfl) (hs2 : starEach [.Constant .none kc epos] X.env = (false, eval (.Constant .none kc epos) X.env) :: starEach [] X.env := by rfl)
    (hfs : ∀ y, foldedSetIterable (.Call (.Name x p) (e :: es) [] cpos) X.env y = pure y := by intro _; rfl) :
    DSt X W (.For tg (.Call (.Name x p) (e :: es) [] cpos) [.Expr (.Call (.Attribute o "append" apos) [.Constant .none kc epos] [] bpos) spos] [] pos) (wForApp i T wr) := by
  obtain ⟨f, fd, F, hm, hk, hb⟩ := C.ex
  refine ⟨ps_imp (ps_for hp hc (pi_list (pe_callS F hr hgx hm hk hb (fun σ => L2N.passAt tk σ) ha.pa hdb hs hpl)) hg (pss_one (ps_expr (pe_bm PySem.F.plainAttrs_list PySem.F.slot_list_append PySem.F.type_list_append mt_append ho (pa_cons pe_non pa_nil hs2) hbase hfew hline hs2))) hfs) fun D σ H hh => ?_, wForApp_mono C.mono ha.mono⟩
  obtain ⟨B, G, F', δ, R, hh⟩ := hh
  refine ⟨B, G, F', δ, R, ha.mono _ _ _ _ _ (fun ds δ1 h1 => ?_) xL_of hh⟩
  intro G1 H1 vs g1 R1 d1
  obtain ⟨hfl, hil, h2⟩ := h1
  refine ⟨fun _ => none, ds, (fun a o z => nomatch z), dqAll_flat d1 hfl, C.mono _ _ _ _ _ (fun d z => ?_) (fun _ z => z.elim) h2⟩
  obtain ⟨xs, rfl, hx1, hx2, z⟩ := z
  intro G' H' v w dv
  have fresh : ∀ (a : Addr) (ys : List V), G' a = some (.lst ys) → H1 a = none := fun a ys ea => by
    cases hH : H1 a with
    | none => rfl
    | some ob =>
      exfalso
      have e1 := w.h a ob hH
      have e2 := w.gh a _ ea
      rw [e1] at e2
      cases e2
      have := w.n a ⟨_, hH, fun xs z => nomatch z⟩ rfl
      rw [this] at ea
      cases ea
  have dv0 := dv
  cases dv with
  | @lst q us _ hq hus =>
    have inner : ∀ u ∈ us, ∃ pp ys, u = L2.V.ref pp ∧ pp ≠ q ∧ G' pp = some (.lst ys) ∧ ys.length ≤ 1000 := fun u hu => by
      obtain ⟨j, hj⟩ := List.mem_iff_getElem?.mp hu
      obtain ⟨d, hd, hud⟩ := dpAll_getV hus hj
      rw [List.getElem?_map] at hd
      cases hxj : xs[j]? with
      | none =>
        rw [hxj] at hd
        cases hd
      | some y =>
        rw [hxj] at hd
        cases hd
        have hym : y ∈ xs := List.mem_of_getElem? hxj
        have hud0 := hud
        cases hud with
        | @lst pp ys _ h3 h4 =>
          refine ⟨pp, ys, rfl, fun z => ?_, h3, by rw [dpAll_len h4]; exact hx1 y hym⟩
          subst z
          have e1 := dq_fun hud0 dv0
          injection e1 with e1
          have h5 : PyData.list y ∈ xs.map PyData.list := List.mem_map.mpr ⟨y, hym, rfl⟩
          have h6 := List.sizeOf_lt_of_mem h5
          have h7 : sizeOf (PyData.list y) = 1 + sizeOf y := by simp
          rw [← e1] at h6
          omega
    have hul : us.length ≤ 1000 := by
      rw [dpAll_len hus, List.length_map]
      exact hx2
    have hHq : H' q = some (.lst us) := w.gh q _ hq
    refine ⟨q, rfl, ⟨us, SqL.of hHq⟩, ?_⟩
    have R2 : Rel X.K B G1 F' (δ1.set i .no) σ H' := (R1.heap w.h).blank i
    have lo : ∀ a, H1 a = none → G1 a = none ∧ F' a = none := fun a z => R1.fresh z
    refine for_it (walk_own (vs := us)) (fun j σ' H2 => Rel X.K B G1 F' (δ1.set i .no) σ' H2 ∧ H2 q = some (.lst us) ∧ ∀ u ∈ us, ∃ pp ys, u = L2.V.ref pp ∧ pp ≠ q ∧ H2 pp = some (.lst ys) ∧ ys.length ≤ 1000 + j ∧ H1 pp = none ∧ Loose (δ1.set i .no) σ' pp) ⟨R2, hHq, fun u hu => ?_⟩ ?_ ?_ ?_
    · obtain ⟨pp, ys, h1, h2, h3, h4⟩ := inner u hu
      have hfr := fresh pp ys h3
      exact ⟨pp, ys, h1, h2, w.gh pp _ h3, by omega, hfr, (R1.loose hfr).blank0⟩
    · rintro j σ' H2 _ ⟨_, h, _⟩
      exact h
    · rintro j u σ' H2 H3 hj ⟨Rj, hqj, hin⟩ ⟨rfl, hu⟩
      obtain ⟨pp, ys, rfl, hne, hpp, hyl, hfr, hlo⟩ := hin u (List.mem_of_getElem? hu)
      have hi : i < σ'.length := by
        rw [← Rj.len, List.length_set]
        exact hil
      refine ⟨_, List.getElem?_set_self hi, .inl ⟨rfl, _, SqL.of hpp⟩, pp, ys, L2.V.non, rfl, rfl, hpp, ?_, ?_⟩
      · rw [sizeLine_eq]
        omega
      have R3 := Rj.setN (i := i) (o := some (L2.V.ref pp))
      rw [List.set_set] at R3
      have hlo' : Loose (δ1.set i .no) (σ'.set i (some (L2.V.ref pp))) pp := by
        have := hlo.blank (i := i) (o := some (L2.V.ref pp))
        rw [List.set_set] at this
        exact this
      obtain ⟨n1, n2⟩ := lo pp hfr
      refine ⟨R3.change n1 n2 hlo', by rw [upd_ne (Ne.symm hne)]; exact hqj, fun u' hu' => ?_⟩
      obtain ⟨p2, y2, rfl, hne2, hp2, hyl2, hfr2, hlo2⟩ := hin u' hu'
      have hlo3 : Loose (δ1.set i .no) (σ'.set i (some (L2.V.ref pp))) p2 := by
        have := hlo2.blank (i := i) (o := some (L2.V.ref pp))
        rw [List.set_set] at this
        exact this
      by_cases h12 : p2 = pp
      · subst h12
        exact ⟨p2, ys ++ [L2.V.non], rfl, hne2, upd_same, by simp; omega, hfr2, hlo3⟩
      · exact ⟨p2, y2, rfl, hne2, by rw [upd_ne h12]; exact hp2, by omega, hfr2, hlo3⟩
    · rintro σ' H2 ⟨Rj, _, _⟩
      exact z G1 σ' H2 g1 Rj
end
section
variable {δ : DS} {D : WEnds} {i : Nat} {T : PT} {wr : WA} {t : WS}
theorem s_forApp (h : wr δ (fun ds δ' => ds.all flatD = true ∧ i < δ'.length ∧ T ds (fun d => ∃ xs : List (List PyData), d = .list (xs.map PyData.list) ∧ (∀ x ∈ xs, x.length ≤ 1000) ∧ xs.length ≤ 1000 ∧ t (δ'.set i .no) D) (fun _ => False)) D.ex) : wSeq (wForApp i T wr) t δ D := h
end
end RD

namespace RD
open PySem L2

set_option hygiene false in
local macro_rules | `(tactic| ac_rfl) => `(tactic| first | omega | (simp only [List.length_append, List.length_take, List.length_drop, List.length_reverse, List.length_cons, List.length_nil, List.length_map, List.length_range, List.length_range', List.length_replicate, List.length_set]; omega))
set_option hygiene false in
local macro_rules | `(tactic| infer_instance) => `(tactic| first
    | with_reducible refine s_seq ?_
    | with_reducible refine s_set ?_
    | with_reducible refine s_setN ?_
    | with_reducible refine s_if ?_
    | with_reducible refine s_for ?_
    | with_reducible refine s_next ?_
    | with_reducible refine s_ret ?_
    | with_reducible refine s_drop ?_
    | with_reducible refine s_app ?_
    | with_reducible refine s_ext ?_
    | with_reducible refine s_par ?_
    | with_reducible refine s_asgT ?_
    | with_reducible refine s_aug ?_
    | with_reducible refine s_while ?_
    | with_reducible refine s_raise ?_
    | with_reducible refine s_put ?_
    | with_reducible refine u_set ?_
    | with_reducible refine u_setN ?_
    | with_reducible refine u_if ?_
    | with_reducible refine u_for ?_
    | with_reducible refine u_next ?_
    | with_reducible refine u_ret ?_
    | with_reducible refine u_drop ?_
    | with_reducible refine u_app ?_
    | with_reducible refine u_ext ?_
    | with_reducible refine u_par ?_
    | with_reducible refine u_asgT ?_
    | with_reducible refine u_aug ?_
    | with_reducible refine u_try ?_
    | with_reducible refine u_raise ?_
    | with_reducible refine u_B ?_
    | with_reducible refine u_op ?_
    | with_reducible refine u_C ?_
    | with_reducible refine u_un ?_
    | with_reducible refine u_notV ?_
    | with_reducible refine u_andV ?_
    | with_reducible refine u_orV ?_
    | with_reducible refine u_ifE ?_
    | with_reducible refine u_or ?_
    | with_reducible refine u_not ?_
    | with_reducible refine u_yes ?_
    | with_reducible refine u_sl ?_
    | with_reducible refine u_OS ?_
    | with_reducible refine u_ON ?_
    | with_reducible refine u_ixv ?_
    | with_reducible refine u_tup ?_
    | with_reducible refine u_lst ?_
    | with_reducible refine u_fz ?_
    | with_reducible refine u_lc ?_
    | with_reducible refine u_call1 ?_
    | with_reducible refine u_callF ?_
    | with_reducible refine u_call ?_
    | with_reducible refine u_join ?_
    | with_reducible refine u_peek ?_
    | with_reducible refine u_peekT ?_
    | with_reducible refine u_cons ?_
    | with_reducible refine u_nil ?_
    | with_reducible refine u_iterL ?_
    | with_reducible refine u_iterT ?_
    | with_reducible refine u_iterS ?_
    | with_reducible refine u_rng1 ?_
    | with_reducible refine u_rng2 ?_
    | with_reducible refine u_rng3 ?_
    | with_reducible refine s_par00 ?_
    | with_reducible refine u_lrg2 ?_
    | with_reducible refine u_lrg3 ?_
    | with_reducible refine u_enum ?_
    | with_reducible refine u_lstS ?_
    | with_reducible refine s_putL ?_
    | with_reducible refine u_indexS ?_
    | with_reducible refine u_lenSet ?_
    | with_reducible refine u_sortSet ?_
    | with_reducible refine s_forApp ?_
    | with_reducible refine TW_ok (by first | assumption | exact word_take (by assumption) _ | exact word_drop (by assumption) _ | exact word_cut (by assumption) _ _ | exact word_rev (by assumption)) ?_
    | with_reducible refine TF_ok (by first | assumption | exact word_take (by assumption) _ | exact word_drop (by assumption) _ | exact word_cut (by assumption) _ _ | exact word_rev (by assumption)) (by first | assumption | decide) ?_
    | with_reducible refine TW2_ok (by first | assumption | exact word_take (by assumption) _ | exact word_drop (by assumption) _ | exact word_cut (by assumption) _ _ | exact word_rev (by assumption)) (by first | assumption | exact word_take (by assumption) _ | exact word_drop (by assumption) _ | exact word_cut (by assumption) _ _ | exact word_rev (by assumption)) ?_
    | with_reducible refine TF2_ok (by first | assumption | exact word_take (by assumption) _ | exact word_drop (by assumption) _ | exact word_cut (by assumption) _ _ | exact word_rev (by assumption)) (by first | assumption | exact word_take (by assumption) _ | exact word_drop (by assumption) _ | exact word_cut (by assumption) _ _ | exact word_rev (by assumption)) (by first | assumption | decide) (by first | assumption | decide) ?_
    | with_reducible refine TAW_ok (by first | assumption | exact word_take (by assumption) _ | exact word_drop (by assumption) _ | exact word_cut (by assumption) _ _ | exact word_rev (by assumption)) ?_
    | with_reducible refine TAF_ok (by first | assumption | exact word_take (by assumption) _ | exact word_drop (by assumption) _ | exact word_cut (by assumption) _ _ | exact word_rev (by assumption)) (by first | assumption | decide) ?_
    | with_reducible refine TAF_emp ?_
    | with_reducible refine TAW_bad (by assumption) (by assumption) ?_
    | with_reducible refine TAF_bad (by assumption) (by assumption) ?_
    | with_reducible refine TAW_bad (by decide +kernel) (by decide +kernel) ?_
    | with_reducible refine TAF_bad (by decide +kernel) (by decide +kernel) ?_
    | with_reducible refine exs (by assumption) ?_
    | with_reducible refine exB ?_
    | with_reducible refine exI ?_
    | with_reducible refine exL ?_
    | with_reducible refine exT' ?_
    | with_reducible refine exO ?_
    | with_reducible refine exS ?_
    | with_reducible refine exSt ?_
    | with_reducible refine e_rng1 (fit_mk (by ac_rfl) (by ac_rfl)) ?_
    | with_reducible refine e_lrg2 (fit_mk (by ac_rfl) (by ac_rfl)) (fit_mk (by ac_rfl) (by ac_rfl)) (by ac_rfl) ?_
    | with_reducible refine e_rng2 (fit_mk (by ac_rfl) (by ac_rfl)) (fit_mk (by ac_rfl) (by ac_rfl)) ?_
    | with_reducible refine e_rng3 (fit_mk (by ac_rfl) (by ac_rfl)) (fit_mk (by ac_rfl) (by ac_rfl)) ?_
    | with_reducible refine e_lstS (by ac_rfl) ?_
    | with_reducible refine exs (len_S (by ac_rfl)) ?_
    | with_reducible refine exs (add_S (by ac_rfl)) ?_
    | with_reducible refine exs (sl_from (by ac_rfl) (by ac_rfl)) ?_
    | with_reducible refine exs (sl_to (by ac_rfl) (by ac_rfl)) ?_
    | with_reducible refine exs (sl_at (by ac_rfl) (by ac_rfl) (by ac_rfl)) ?_
    | with_reducible refine exs (eq_empty _) ?_
    | with_reducible refine exs (ne_empty' _) ?_
    | with_reducible refine exs (eq_S _ _) ?_
    | with_reducible refine exs (ne_S _ _) ?_
    | with_reducible refine exs (eq_int' _ _) ?_
    | with_reducible refine exs (ne_int' _ _) ?_
    | with_reducible refine exs (in_S _ _) ?_
    | with_reducible refine exs (notIn_S _ _) ?_
    | with_reducible refine exs (at_S (by ac_rfl) (by ac_rfl) (by ac_rfl)) ?_
    | with_reducible refine exs (rev_S (by ac_rfl)) ?_
    | with_reducible refine exs (mod_i (by ac_rfl)) ?_
    | with_reducible refine exs (fdiv_i ⟨(by ac_rfl), (by ac_rfl)⟩) ?_
    | with_reducible refine exs (mul_l ⟨(by ac_rfl), (by ac_rfl)⟩) ?_
    | with_reducible refine exs (mul_r ⟨(by ac_rfl), (by ac_rfl)⟩) ?_
    | with_reducible refine exs (join_chars (by ac_rfl)) ?_
    | with_reducible refine exs (join_chars' (by ac_rfl)) ?_
    | with_reducible refine exs (join_words (by ac_rfl)) ?_
    | with_reducible refine exs (ne_told _ _) ?_
    | with_reducible refine exs (eq_told _ _) ?_
    | with_reducible refine exs (ne_told' _ _) ?_
    | with_reducible refine exs (slL_to (by ac_rfl)) ?_
    | with_reducible refine exs (slL_from (by ac_rfl)) ?_
    | with_reducible refine exs (slL_init _) ?_
    | with_reducible refine exs (slL_mid _) ?_
    | with_reducible refine exs (sl_init (by ac_rfl)) ?_
    | with_reducible refine exs (rev_L _) ?_
    | with_reducible refine exs (add_L (by ac_rfl)) ?_
    | with_reducible refine exs (mul_L (by ac_rfl) (by ac_rfl) (by ac_rfl)) ?_
    | with_reducible refine exs (mul_S (by ac_rfl) (by ac_rfl) (by ac_rfl)) ?_
    | with_reducible refine exs (ne_bools _ _) ?_
    | with_reducible refine exs (eq_bools _ _) ?_
    | with_reducible refine exs (ne_reps (by first | rfl | simp) (lay_bool _)) ?_
    | with_reducible refine exs (eq_reps (by first | rfl | simp) (lay_bool _)) ?_
    | with_reducible refine exs (ne_reps (by first | rfl | simp) (lay_told _)) ?_
    | with_reducible refine exs (eq_reps (by first | rfl | simp) (lay_told _)) ?_
    | with_reducible refine exs (lt_int _ _) ?_
    | with_reducible refine exs (le_int _ _) ?_
    | with_reducible refine exs (gt_int _ _) ?_
    | with_reducible refine exs (ge_int _ _) ?_
    | with_reducible refine exs eq_nats ?_
    | with_reducible refine exs ne_nats ?_
    | with_reducible refine exs in_nat ?_
    | with_reducible refine exs notIn_nat ?_
    | ((with_reducible refine u_eqWD0 ?_); refine e_eqWD rfl ?_)
    | ((with_reducible refine u_eqMW0 ?_); refine e_eqMW rfl ?_)
    | ((with_reducible refine u_neWW0 ?_); refine e_neWW rfl rfl ?_)
    | ((with_reducible refine s_appNew0 ?_); refine s_appNew rfl ?_)
    | ((with_reducible refine u_eqWW0 ?_); refine e_eqWW rfl rfl ?_)
    | ((with_reducible refine u_callX0 ?_); refine u_callX rfl rfl rfl rfl ?_)
    | ((with_reducible refine e_callX0 ?_); refine e_callX rfl rfl rfl rfl ?_)
    | ((with_reducible refine u_fldL0 ?_); refine e_fldL rfl ?_)
    | ((with_reducible refine u_fldK0 ?_); refine e_fldK rfl ?_)
    | ((with_reducible refine e_putL0 ?_); refine e_putL rfl ?_)
    | ((with_reducible refine u_callW0 ?_); refine u_callWr rfl ?_)
    | ((with_reducible refine e_callW0 ?_); refine e_callW rfl ?_)
    | ((with_reducible refine u_var ?_); refine exD rfl ?_)
    | ((with_reducible refine u_varO ?_); refine exW rfl ?_)
    | ((with_reducible refine ite0 ?_); refine iteT' rfl ?_)
    | ((with_reducible refine ite0 ?_); refine iteF' rfl ?_)
    | ((with_reducible refine exD0 ?_); refine exD rfl ?_)
    | ((with_reducible refine exs0 ?_); refine exs rfl ?_)
    | ((with_reducible refine exOwn0 ?_); refine exOwn rfl ?_)
    | ((with_reducible refine exApp0 ?_); refine exApp rfl (by ac_rfl) ?_)
    | ((with_reducible refine exExt0 ?_); refine exExt rfl (by ac_rfl) ?_)
    | with_reducible refine ex2 ?_
    | ((with_reducible refine u_callT ?_); refine ⟨⟨_, rfl⟩, ⟨_, _, rfl, rfl⟩, ?_⟩)
    | ((with_reducible refine exCT0 ?_); refine exCT rfl rfl rfl ?_)
    | with_reducible refine ln rfl ?_
    | with_reducible refine lnw (by ac_rfl) ?_
    | ((with_reducible refine eqA0 ?_); refine eqA rfl ?_))
theorem sk : ("" : Str) = St [] := by decide +kernel
theorem sk_97 : ("a" : Str) = St [97] := by decide +kernel
theorem sk_97_98_99 : ("abc" : Str) = St [97, 98, 99] := by decide +kernel
theorem sk_97_98_99_100 : ("abcd" : Str) = St [97, 98, 99, 100] := by decide +kernel
theorem sk_98 : ("b" : Str) = St [98] := by decide +kernel
theorem sk_99 : ("c" : Str) = St [99] := by decide +kernel
theorem sk_100 : ("d" : Str) = St [100] := by decide +kernel
set_option hygiene false in
local macro_rules | `(tactic| infer_instance) => `(tactic| with_reducible refine u_CS sk ?_)
set_option hygiene false in
local macro_rules | `(tactic| infer_instance) => `(tactic| with_reducible refine u_CS sk_97 ?_)
set_option hygiene false in
local macro_rules | `(tactic| infer_instance) => `(tactic| with_reducible refine u_CS sk_97_98_99 ?_)
set_option hygiene false in
local macro_rules | `(tactic| infer_instance) => `(tactic| with_reducible refine u_CS sk_97_98_99_100 ?_)
set_option hygiene false in
local macro_rules | `(tactic| infer_instance) => `(tactic| with_reducible refine u_CS sk_98 ?_)
set_option hygiene false in
local macro_rules | `(tactic| infer_instance) => `(tactic| with_reducible refine u_CS sk_99 ?_)
set_option hygiene false in
local macro_rules | `(tactic| infer_instance) => `(tactic| with_reducible refine u_CS sk_100 ?_)
def top (i : Nat) : Stmt := PySem.Challenge.pw_runwords_k15_whole_repeated_calls.main.body.getD i (.Pass ⟨0, 0, 0, 0⟩)
abbrev s_is_integer : Stmt := top 11
abbrev s_is_word : Stmt := top 12
abbrev s_check_word : Stmt := top 13
abbrev s_check_full : Stmt := top 14
abbrev s_part_list : Stmt := top 15
abbrev s_parts : Stmt := top 16
abbrev s_check_two : Stmt := top 18
abbrev s_shared : Stmt := top 19
abbrev s_overlap : Stmt := top 20
abbrev s_same_back : Stmt := top 22
abbrev s_mirror_list : Stmt := top 23
abbrev s_mirrors : Stmt := top 24
abbrev s_last_mirrors : Stmt := top 25
abbrev s_best_mirrors : Stmt := top 26
abbrev s_mirroring : Stmt := top 27
abbrev s_has_period : Stmt := top 29
abbrev s_period_list : Stmt := top 30
abbrev s_periods : Stmt := top 31
abbrev s_borders : Stmt := top 32
abbrev s_square_list : Stmt := top 34
abbrev s_squares : Stmt := top 35
abbrev s_runs : Stmt := top 36
abbrev s_ends_with_square : Stmt := top 37
abbrev s_free_words : Stmt := top 38
abbrev s_Writer___init__ : Stmt := inClass (top 40) 0
abbrev s_Writer_write : Stmt := inClass (top 40) 1
abbrev s_Writer_word : Stmt := inClass (top 40) 2
abbrev s_Writer_free_letters : Stmt := inClass (top 40) 3
abbrev s_Writer___len__ : Stmt := inClass (top 40) 7
abbrev s_law_cell_at : Stmt := top 42
abbrev s_law_mixed : Stmt := top 43
abbrev s_law_draw : Stmt := top 44
abbrev s_law_pick : Stmt := top 45
abbrev s_law_some_text : Stmt := top 46
abbrev s_law_told : Stmt := top 47
abbrev s_law : Stmt := top 48
structure Exc where
  WordError : Addr
  InvalidWord : Addr
  InvalidLetter : Addr
  InvalidNumber : Addr
  Empty : Addr
  TooLong : Addr
  Writer : Addr
/-- what the top has left -/
structure Txt (K : PySem.W.Frag) (mg : Str → Option Value) (cx : Exc) : Prop where
  n_all : mg "all" = none
  n_any : mg "any" = none
  n_bool : mg "bool" = none
  n_int : mg "int" = none
  n_isinstance : mg "isinstance" = none
  n_len : mg "len" = none
  n_min : mg "min" = none
  n_range : mg "range" = none
  n_sorted : mg "sorted" = none
  n_str : mg "str" = none
  g_LETTERS : ∃ t, mg "LETTERS" = some (.str "abcd" t)
  g_MOST : ∃ t, mg "MOST" = some (.int 12 t)
  g_InvalidWord : mg "InvalidWord" = some (.ref cx.InvalidWord)
  x_InvalidWord : PySem.W.excIn K cx.InvalidWord [.type "ValueError", .type "Exception", .type "BaseException", .type "object"] "ValueError.__new__" = true
  k_InvalidWord : PySem.W.keepIn K (.ref cx.InvalidWord) = true
  b_InvalidWord : PySem.W.subIn K (.ref cx.InvalidWord) (.type "BaseException") = some true
  t_InvalidWord : PySem.W.typeIn K (.ref cx.InvalidWord) = some (.type "type")
  g_InvalidLetter : mg "InvalidLetter" = some (.ref cx.InvalidLetter)
  x_InvalidLetter : PySem.W.excIn K cx.InvalidLetter [.type "ValueError", .type "Exception", .type "BaseException", .type "object"] "ValueError.__new__" = true
  k_InvalidLetter : PySem.W.keepIn K (.ref cx.InvalidLetter) = true
  b_InvalidLetter : PySem.W.subIn K (.ref cx.InvalidLetter) (.type "BaseException") = some true
  t_InvalidLetter : PySem.W.typeIn K (.ref cx.InvalidLetter) = some (.type "type")
  g_InvalidNumber : mg "InvalidNumber" = some (.ref cx.InvalidNumber)
  x_InvalidNumber : PySem.W.excIn K cx.InvalidNumber [.type "ValueError", .type "Exception", .type "BaseException", .type "object"] "ValueError.__new__" = true
  k_InvalidNumber : PySem.W.keepIn K (.ref cx.InvalidNumber) = true
  b_InvalidNumber : PySem.W.subIn K (.ref cx.InvalidNumber) (.type "BaseException") = some true
  t_InvalidNumber : PySem.W.typeIn K (.ref cx.InvalidNumber) = some (.type "type")
  g_Empty : mg "Empty" = some (.ref cx.Empty)
  x_Empty : PySem.W.excIn K cx.Empty [.type "ValueError", .type "Exception", .type "BaseException", .type "object"] "ValueError.__new__" = true
  k_Empty : PySem.W.keepIn K (.ref cx.Empty) = true
  b_Empty : PySem.W.subIn K (.ref cx.Empty) (.type "BaseException") = some true
  t_Empty : PySem.W.typeIn K (.ref cx.Empty) = some (.type "type")
  g_TooLong : mg "TooLong" = some (.ref cx.TooLong)
  x_TooLong : PySem.W.excIn K cx.TooLong [.type "ValueError", .type "Exception", .type "BaseException", .type "object"] "ValueError.__new__" = true
  k_TooLong : PySem.W.keepIn K (.ref cx.TooLong) = true
  b_TooLong : PySem.W.subIn K (.ref cx.TooLong) (.type "BaseException") = some true
  t_TooLong : PySem.W.typeIn K (.ref cx.TooLong) = some (.type "type")
  cW : WCls K cx.Writer
  g_Writer : mg "Writer" = some (.ref cx.Writer)

/-! ### is_integer -/
abbrev N_is_integer : List Str := ["value", "low", "high"]
theorem sc_is_integer : FnScope N_is_integer ["value", "low", "high"] (defScope s_is_integer) := ⟨rfl, rfl, rfl, by decide +kernel, rfl, by decide +kernel, by decide +kernel⟩
def w_is_integer (cx : Exc) : WS :=
    (wRet (wAndV (wUn (fun d => some (.bool (PyData.isInt d))) (wVar 0)) (wAndV (wNotV (wUn (fun d => some (.bool (PyData.isBool d))) (wVar 0))) (wChain leD leD (wVar 1) (wVar 0) (wVar 2)))))
def intIn (lo hi : Int) : PyData → Bool
  | .int i => decide (lo ≤ i) && decide (i ≤ hi)
  | _ => false
def T_is_integer (_ : Exc) : PT := fun ds Q _ => ∃ d lo hi, ds = [d, .int lo, .int hi] ∧ Q (.bool (intIn lo hi d))
theorem m_is_integer (cx : Exc) : MonoP (T_is_integer cx) := fun _ _ _ _ _ hq _ ⟨d, lo, hi, h1, h2⟩ => ⟨d, lo, hi, h1, hq _ h2⟩
theorem c_is_integer {cx : Exc} {d : PyData} {lo hi : Int} {Q : PyData → Prop} {E : Value → Prop} (h : Q (.bool (intIn lo hi d))) : T_is_integer cx [d, .int lo, .int hi] Q E := ⟨d, lo, hi, rfl, h⟩
theorem h_is_integer (cx : Exc) : ∀ ds Q E, T_is_integer cx ds Q E → ds.length = 3 ∧ w_is_integer cx (startD 3 ds) (fnEnds Q E) := by
  rintro ds Q E ⟨d, lo, hi, rfl, hq⟩
  refine ⟨rfl, _, rfl, _, rfl, ?_⟩
  cases d with
  | int i =>
    refine iteT ⟨_, rfl, _, rfl, _, rfl, iteT ⟨_, rfl, ?_⟩⟩
    simp only [intIn] at hq
    by_cases h : lo ≤ i
    · rw [decide_eq_true h, Bool.true_and] at hq
      exact if_true_of' h ⟨_, rfl, hq⟩
    · rw [decide_eq_false h, Bool.false_and] at hq
      exact if_false_of' h hq
  | bool b => exact iteT ⟨_, rfl, _, rfl, _, rfl, iteF hq⟩
  | none => exact iteF hq
  | str z => exact iteF hq
  | list xs => exact iteF hq
  | tuple xs => exact iteF hq
  | dict xs => exact iteF hq
set_option hygiene false in
local macro_rules | `(tactic| infer_instance) => `(tactic| with_reducible refine c_is_integer ?_)
theorem b_is_integer {P : Program} {w : World} {K : PySem.W.Frag} {mg : Str → Option Value} {base : Heap} {cx : Exc} {f : Addr} (T : Txt K mg cx)  (cdv : Value) (A : Around) (outer : List Env) (s : Shared) (H : Hp) (E : XK) (hr : Room 0 (A.deeper (PyProof.Rows.envOfC "is_integer" (defScope s_is_integer) s.heap.objs.size f cdv))) :
    DSs (cxOf (L2N.CX P w) P w K mg base N_is_integer "is_integer" (defScope s_is_integer) f cdv A outer s H E) (fun cls d _ H' => E cls d H') (defBody s_is_integer) (w_is_integer cx) := by
  have tk : L2N.Takes (cxOf (L2N.CX P w) P w K mg base N_is_integer "is_integer" (defScope s_is_integer) f cdv A outer s H E) (fun cls d _ H' => E cls d H') := L2N.takes_of rfl rfl rfl rfl
  exact (dss_one (ds_ret (de_and (de_isa (T := "int") rfl T.n_isinstance T.n_int (by decide +kernel) (de_var 0 (pv 0))) (de_and (de_not (de_isa (T := "bool") rfl T.n_isinstance T.n_bool (by decide +kernel) (de_var 0 (pv 0)))) (de_one (de_lele (de_var 1 (pv 1)) (de_var 0 (pv 0)) (de_var 2 (pv 2))))))))
theorem ok_is_integer {P : Program} {w : World} {K : PySem.W.Frag} {mg : Str → Option Value} {base : Heap} {cx : Exc} {f : Addr} {fd : FuncData} (F : Fun K "is_integer" "is_integer" s_is_integer f fd) (T : Txt K mg cx) (gf : mg "is_integer" = some (.ref f)) (bf : Binds K fd ["value", "low", "high"] [])  : Fn P w K mg base "is_integer" ["value", "low", "high"] 1 (T_is_integer cx) :=
  ⟨⟨f, fd, okD F sc_is_integer (b_is_integer T ) (by decide) (h_is_integer cx), gf, F.kp, bf⟩, m_is_integer cx⟩

/-! ### is_word -/
abbrev N_is_word : List Str := ["value", "letter"]
theorem sc_is_word : FnScope N_is_word ["value"] (defScope s_is_word) := ⟨rfl, rfl, rfl, by decide +kernel, rfl, by decide +kernel, by decide +kernel⟩
def w_is_word (cx : Exc) : WS :=
    (wRet (wAndV (wUn (fun d => some (.bool (PyData.isStr d))) (wVar 0)) (wAndV (wOp leD (wCallF lenD (wCons (wVar 0) wNil)) (wC (.int 12))) (wCallF allF (wCons (wFz (wLc (wIterS (wVar 0)) (set1 1) [1] wYes (wOp inD (wVar 1) (wC (.str "abcd"))))) wNil)))))
def T_is_word (_ : Exc) : PT := fun ds Q _ => ∃ d, ds = [d] ∧ fewD d = true ∧ Q (.bool (isWordD d))
theorem m_is_word (cx : Exc) : MonoP (T_is_word cx) := fun _ _ _ _ _ hq _ ⟨d, h1, h2, h3⟩ => ⟨d, h1, h2, hq _ h3⟩
theorem c_is_word {cx : Exc} {d : PyData} {Q : PyData → Prop} {E : Value → Prop} (h : fewD d = true) (q : Q (.bool (isWordD d))) : T_is_word cx [d] Q E := ⟨d, rfl, h, q⟩
theorem h_is_word (cx : Exc) : ∀ ds Q E, T_is_word cx ds Q E → ds.length = 1 ∧ w_is_word cx (startD 2 ds) (fnEnds Q E) := by
  rintro ds Q E ⟨d, rfl, hf, h⟩
  refine ⟨rfl, ?_⟩
  cases d with
  | str z =>
    obtain ⟨l, rfl⟩ : ∃ l, z = St l := ⟨_, (str_eta z).symm⟩
    have h' : Q (.bool (wordB l)) := by
      rw [← isWord_S]
      exact h
    have hl : l.length ≤ 100000 := by
      have := of_decide_eq_true hf
      rwa [St_len] at this
    refine ⟨_, rfl, true, rfl, iteT ?_⟩
    refine ⟨_, len_S hl, _, rfl, _, rfl, ite2 (fun c => ?_) (fun c => ?_)⟩
    · have c' : l.length ≤ 12 := by
        have := of_decide_eq_true c
        omega
      refine ⟨_, rfl, ?_⟩
      refine lc_map (fun x => match x with | .str z => .bool (letB (z.cps.toList.getD 0 0)) | _ => .none) _ [] ?_ ?_ ?_
      · intro x hx
        rw [chrs_S] at hx
        obtain ⟨ch, _, rfl⟩ := List.mem_map.mp hx
        refine ⟨_, rfl, fun P hP => ⟨.bool (letB ch), ?_, hP _ rfl⟩⟩
        rw [abcd, in_S, in_letters]
      · rw [chrs_S]
        simp only [List.length_map, List.length_nil]
        exact le_line (by omega)
      · refine ⟨_, rfl, .bool (l.all letB), ?_, ?_⟩
        · rw [chrs_S, List.map_map]
          show allF [.list (l.map fun c => .bool (letB c))] = _
          have e : (l.map fun c => PyData.bool (letB c)) = (l.map letB).map .bool := by simp
          show (bools _).map _ = _
          rw [e, bools_map]
          simp [List.all_map, Function.comp_def]
        · unfold wordB at h'
          rw [decide_eq_true c', Bool.true_and] at h'
          exact h'
    · have c' : ¬ l.length ≤ 12 := fun z => c (decide_eq_true (by omega))
      unfold wordB at h'
      rw [decide_eq_false c', Bool.false_and] at h'
      exact h'
  | none => exact ⟨_, rfl, false, rfl, iteF h⟩
  | bool b => exact ⟨_, rfl, false, rfl, iteF h⟩
  | int b => exact ⟨_, rfl, false, rfl, iteF h⟩
  | list b => exact ⟨_, rfl, false, rfl, iteF h⟩
  | tuple b => exact ⟨_, rfl, false, rfl, iteF h⟩
  | dict b => exact ⟨_, rfl, false, rfl, iteF h⟩
set_option hygiene false in
local macro_rules | `(tactic| infer_instance) => `(tactic| with_reducible refine c_is_word (by first | assumption | exact few_S (by ac_rfl)) ?_)
theorem b_is_word {P : Program} {w : World} {K : PySem.W.Frag} {mg : Str → Option Value} {base : Heap} {cx : Exc} {f : Addr} (T : Txt K mg cx)  (cdv : Value) (A : Around) (outer : List Env) (s : Shared) (H : Hp) (E : XK) (hr : Room 0 (A.deeper (PyProof.Rows.envOfC "is_word" (defScope s_is_word) s.heap.objs.size f cdv))) :
    DSs (cxOf (L2N.CX P w) P w K mg base N_is_word "is_word" (defScope s_is_word) f cdv A outer s H E) (fun cls d _ H' => E cls d H') (defBody s_is_word) (w_is_word cx) := by
  have tk : L2N.Takes (cxOf (L2N.CX P w) P w K mg base N_is_word "is_word" (defScope s_is_word) f cdv A outer s H E) (fun cls d _ H' => E cls d H') := L2N.takes_of rfl rfl rfl rfl
  obtain ⟨t_LETTERS, g_LETTERS⟩ := T.g_LETTERS
  obtain ⟨t_MOST, g_MOST⟩ := T.g_MOST
  exact (dss_one (ds_ret (de_and (de_isa (T := "str") rfl T.n_isinstance T.n_str (by decide +kernel) (de_var 0 (pv 0))) (de_and (de_le (de_len T.n_len (da_cons (de_var 0 (pv 0)) da_nil)) (de_c (pe_glob (v := .int 12) rfl g_MOST ⟨_, rfl⟩) fun _ => .int _)) (de_one (de_all rfl T.n_all (da_cons (de_new (dn_lc0 (own := [("letter", 1)]) rfl sc_is_word.nd (di_str (de_var 0 (pv 0))) (blkOk_by (own := [("letter", 1)]) (N := N_is_word) (sc := defScope s_is_word) (by decide +kernel)) (fun _ _ _ _ _ => (pg_name (i := 1) sc_is_word.nd rfl (by first | exact Or.inl rfl | exact Or.inr rfl))) (tgt1 1) (fun _ _ _ _ _ => (de_in hr (de_var 1 (pv 1)) (de_c (pe_glob (v := .str "abcd") rfl g_LETTERS ⟨_, rfl⟩) fun _ => .str _))))) da_nil)))))))
theorem ok_is_word {P : Program} {w : World} {K : PySem.W.Frag} {mg : Str → Option Value} {base : Heap} {cx : Exc} {f : Addr} {fd : FuncData} (F : Fun K "is_word" "is_word" s_is_word f fd) (T : Txt K mg cx) (gf : mg "is_word" = some (.ref f)) (bf : Binds K fd ["value"] [])  : Fn P w K mg base "is_word" ["value"] 1 (T_is_word cx) :=
  ⟨⟨f, fd, okD F sc_is_word (b_is_word T ) (by decide) (h_is_word cx), gf, F.kp, bf⟩, m_is_word cx⟩

/-! ### check_word -/
abbrev N_check_word : List Str := ["word"]
theorem sc_check_word : FnScope N_check_word ["word"] (defScope s_check_word) := ⟨rfl, rfl, rfl, by decide +kernel, rfl, by decide +kernel, by decide +kernel⟩
def w_check_word (cx : Exc) : WS :=
    (wIfS (wNot (wB (wCall (T_is_word cx) (wCons (wVar 0) wNil)))) (wRaise (.ref cx.InvalidWord)) wNext)
def T_check_word (cx : Exc) : PT := fun ds Q E => ∃ d, ds = [d] ∧ fewD d = true ∧ (isWordD d = true → Q .none) ∧ (isWordD d = false → E (.ref cx.InvalidWord))
theorem m_check_word (cx : Exc) : MonoP (T_check_word cx) := fun _ _ _ _ _ hq he ⟨d, h1, h2, h3, h4⟩ => ⟨d, h1, h2, fun z => hq _ (h3 z), fun z => he _ (h4 z)⟩
theorem h_check_word (cx : Exc) : ∀ ds Q E, T_check_word cx ds Q E → ds.length = 1 ∧ w_check_word cx (startD 1 ds) (fnEnds Q E) := by
  rintro ds Q E ⟨d, rfl, hf, h1, h2⟩
  refine ⟨rfl, d, rfl, hf, _, rfl, ?_⟩
  cases hw : isWordD d with
  | true => exact iteF (h1 hw)
  | false => exact iteT (h2 hw)
theorem b_check_word {P : Program} {w : World} {K : PySem.W.Frag} {mg : Str → Option Value} {base : Heap} {cx : Exc} {f : Addr} (T : Txt K mg cx) (c_is_word : Fn P w K mg base "is_word" ["value"] 1 (T_is_word cx)) (cdv : Value) (A : Around) (outer : List Env) (s : Shared) (H : Hp) (E : XK) (hr : Room 1 (A.deeper (PyProof.Rows.envOfC "check_word" (defScope s_check_word) s.heap.objs.size f cdv))) :
    DSs (cxOf (L2N.CX P w) P w K mg base N_check_word "check_word" (defScope s_check_word) f cdv A outer s H E) (fun cls d _ H' => E cls d H') (defBody s_check_word) (w_check_word cx) := by
  have tk : L2N.Takes (cxOf (L2N.CX P w) P w K mg base N_check_word "check_word" (defScope s_check_word) f cdv A outer s H E) (fun cls d _ H' => E cls d H') := L2N.takes_of rfl rfl rfl rfl
  exact (dss_one (ds_if (dt_not (dt_val (de_call c_is_word tk (hr.mono (by decide)) (da_cons (de_var 0 (pv 0)) da_nil)))) (dss_one (ds_raise_of (L2N.ps_raise rfl tk (L2N.pmk_own PySem.F.excBase_ValueError T.x_InvalidWord T.g_InvalidWord T.k_InvalidWord (raises_own T.b_InvalidWord T.t_InvalidWord) rfl)))) dss_nil))
theorem ok_check_word {P : Program} {w : World} {K : PySem.W.Frag} {mg : Str → Option Value} {base : Heap} {cx : Exc} {f : Addr} {fd : FuncData} (F : Fun K "check_word" "check_word" s_check_word f fd) (T : Txt K mg cx) (gf : mg "check_word" = some (.ref f)) (bf : Binds K fd ["word"] []) (c_is_word : Fn P w K mg base "is_word" ["value"] 1 (T_is_word cx)) : Fn P w K mg base "check_word" ["word"] 2 (T_check_word cx) :=
  ⟨⟨f, fd, okD F sc_check_word (b_check_word T c_is_word) (by decide) (h_check_word cx), gf, F.kp, bf⟩, m_check_word cx⟩

/-! ### check_full -/
abbrev N_check_full : List Str := ["word"]
theorem sc_check_full : FnScope N_check_full ["word"] (defScope s_check_full) := ⟨rfl, rfl, rfl, by decide +kernel, rfl, by decide +kernel, by decide +kernel⟩
def w_check_full (cx : Exc) : WS :=
    (wSeq (wDrop (wCall (T_check_word cx) (wCons (wVar 0) wNil)))
    (wIfS (wB (wOp eqD (wVar 0) (wC (.str "")))) (wRaise (.ref cx.Empty)) wNext))
def T_check_full (cx : Exc) : PT := fun ds Q E => ∃ d, ds = [d] ∧ fewD d = true ∧ (isWordD d = true → d ≠ S [] → Q .none) ∧ (d = S [] → E (.ref cx.Empty)) ∧ (isWordD d = false → E (.ref cx.InvalidWord))
theorem m_check_full (cx : Exc) : MonoP (T_check_full cx) := fun _ _ _ _ _ hq he ⟨d, h1, h2, h3, h4, h5⟩ => ⟨d, h1, h2, fun x y => hq _ (h3 x y), fun z => he _ (h4 z), fun z => he _ (h5 z)⟩
theorem h_check_full (cx : Exc) : ∀ ds Q E, T_check_full cx ds Q E → ds.length = 1 ∧ w_check_full cx (startD 1 ds) (fnEnds Q E) := by
  rintro ds Q E ⟨d, rfl, hf, h1, h2, h3⟩
  refine ⟨rfl, d, rfl, hf, fun hw => ?_, fun hw => h3 hw⟩
  obtain ⟨a, rfl, wa⟩ := isWord_str hw
  have e : eqD (S a) (.str "") = some (.bool (decide (a = []))) := by
    rw [empty_St]
    exact eq_S a []
  refine ⟨_, e, _, rfl, ?_⟩
  by_cases ha : a = []
  · refine if_true_of' ha (h2 (by rw [ha]))
  · refine if_false_of' ha (h1 hw fun z => ha (St_inj.mp (by injection z)))
theorem b_check_full {P : Program} {w : World} {K : PySem.W.Frag} {mg : Str → Option Value} {base : Heap} {cx : Exc} {f : Addr} (T : Txt K mg cx) (c_check_word : Fn P w K mg base "check_word" ["word"] 2 (T_check_word cx)) (cdv : Value) (A : Around) (outer : List Env) (s : Shared) (H : Hp) (E : XK) (hr : Room 2 (A.deeper (PyProof.Rows.envOfC "check_full" (defScope s_check_full) s.heap.objs.size f cdv))) :
    DSs (cxOf (L2N.CX P w) P w K mg base N_check_full "check_full" (defScope s_check_full) f cdv A outer s H E) (fun cls d _ H' => E cls d H') (defBody s_check_full) (w_check_full cx) := by
  have tk : L2N.Takes (cxOf (L2N.CX P w) P w K mg base N_check_full "check_full" (defScope s_check_full) f cdv A outer s H E) (fun cls d _ H' => E cls d H') := L2N.takes_of rfl rfl rfl rfl
  exact (dss_cons (ds_expr (de_call c_check_word tk (hr.mono (by decide)) (da_cons (de_var 0 (pv 0)) da_nil)))
    (dss_one (ds_if (dt_eq hr (de_var 0 (pv 0)) de_str) (dss_one (ds_raise_of (L2N.ps_raise rfl tk (L2N.pmk_own PySem.F.excBase_ValueError T.x_Empty T.g_Empty T.k_Empty (raises_own T.b_Empty T.t_Empty) rfl)))) dss_nil)))
theorem ok_check_full {P : Program} {w : World} {K : PySem.W.Frag} {mg : Str → Option Value} {base : Heap} {cx : Exc} {f : Addr} {fd : FuncData} (F : Fun K "check_full" "check_full" s_check_full f fd) (T : Txt K mg cx) (gf : mg "check_full" = some (.ref f)) (bf : Binds K fd ["word"] []) (c_check_word : Fn P w K mg base "check_word" ["word"] 2 (T_check_word cx)) : Fn P w K mg base "check_full" ["word"] 3 (T_check_full cx) :=
  ⟨⟨f, fd, okD F sc_check_full (b_check_full T c_check_word) (by decide) (h_check_full cx), gf, F.kp, bf⟩, m_check_full cx⟩

/-! ### part_list -/
abbrev N_part_list : List Str := ["word", "found", "start", "end"]
theorem sc_part_list : FnScope N_part_list ["word"] (defScope s_part_list) := ⟨rfl, rfl, rfl, by decide +kernel, rfl, by decide +kernel, by decide +kernel⟩
def w_part_list (cx : Exc) : WS :=
    (wSeq (wSetN 1 wDk)
    (wSeq (wFor (wRng1 (wCons (wCallF lenD (wCons (wVar 0) wNil)) wNil)) (set1 2) (wFor (wRng2 (wCons (wOp addD (wVar 2) (wC (.int 1))) (wCons (wOp addD (wCallF lenD (wCons (wVar 0) wNil)) (wC (.int 1))) wNil))) (set1 3) (wPutK 1 (wSl (wVar 0) (wOS (wVar 2)) (wOS (wVar 3))))))
    (wRet (wSortK 1))))
/-- all parts, each once, sorted -/
def T_part_list (_ : Exc) : PT := fun ds Q _ => ∃ a, ds = [S a] ∧ a.length ≤ 24 ∧ Q (.list ((partsL a).map S))
theorem m_part_list (cx : Exc) : MonoP (T_part_list cx) := fun _ _ _ _ _ hq _ ⟨a, h1, h2, h3⟩ => ⟨a, h1, h2, hq _ h3⟩
theorem c_part_list {cx : Exc} {a : List Nat} {Q : PyData → Prop} {E : Value → Prop} (h2 : a.length ≤ 24) (h : Q (.list ((partsL a).map S))) : T_part_list cx [S a] Q E := ⟨a, rfl, h2, h⟩
theorem parts_in {a : List Nat} {i : Nat} {D : WEnds} (ha : a.length ≤ 1000) : ∀ (m k : Nat) (L : List (List Nat)) (ks : List (Key × V)) (x3 : SD), i + k + m = a.length → ks.map (·.1) = keysOf L → ks.length + m ≤ 50000 →
    (∀ ks' y3, ks'.map (·.1) = keysOf (((List.range' k m).map fun j => (a.take (i + 1 + j)).drop i).foldl addW L) → ks'.length ≤ ks.length + m → D.nx [.d (S a), .own (.dk ks'), .d (.int (i : Int)), y3]) →
    wForL (set1 3) (wPutK 1 (wSl (wVar 0) (wOS (wVar 2)) (wOS (wVar 3)))) (rng ((i : Int) + 1 + (k : Int)) ((a.length : Int) + 1)) [.d (S a), .own (.dk ks), .d (.int (i : Int)), x3] D
  | 0, k, L, ks, x3, hm, hk, hl, h => by
    rw [show (i : Int) + 1 + (k : Int) = (a.length : Int) + 1 by omega, rng_zero]
    exact h ks x3 hk (by omega)
  | m + 1, k, L, ks, x3, hm, hk, hl, h => by
    rw [rng_cons (by omega)]
    refine ⟨_, rfl, ⟨ks, rfl⟩, _, rfl, _, rfl, _, sl_S (by omega), _, ks, rfl, rfl, lt_line (by omega), ?_⟩
    rw [cut_at a (i := i) (j := i + 1 + k) rfl (by omega), show (i : Int) + 1 + (k : Int) + 1 = (i : Int) + 1 + ((k + 1 : Nat) : Int) by omega]
    have hp := putK_len (ks := ks) (k := Sum.inr (St ((a.take (i + 1 + k)).drop i))) (v := .bl true)
    refine parts_in ha m (k + 1) _ _ _ (by omega) (putK_keys hk) (by omega) fun ks' y3 h1 h2 => h ks' y3 ?_ (by omega)
    rw [h1, List.range'_succ, List.map_cons, List.foldl_cons]
theorem parts_out {a : List Nat} {D : WEnds} (ha : a.length ≤ 24) : ∀ (m i : Nat) (L : List (List Nat)) (ks : List (Key × V)) (x2 x3 : SD), i + m = a.length → ks.map (·.1) = keysOf L → ks.length + 24 * m ≤ 10000 →
    (∀ ks' y2 y3, ks'.map (·.1) = keysOf (((List.range' i m).flatMap (facsAt a)).foldl addW L) → D.nx [.d (S a), .own (.dk ks'), y2, y3]) →
    wForL (set1 2) (wFor (wRng2 (wCons (wOp addD (wVar 2) (wC (.int 1))) (wCons (wOp addD (wCallF lenD (wCons (wVar 0) wNil)) (wC (.int 1))) wNil))) (set1 3) (wPutK 1 (wSl (wVar 0) (wOS (wVar 2)) (wOS (wVar 3))))) (rng (i : Int) (a.length : Int)) [.d (S a), .own (.dk ks), x2, x3] D
  | 0, i, L, ks, x2, x3, hm, hk, hl, h => by
    rw [show (i : Int) = (a.length : Int) by omega, rng_zero]
    exact h ks x2 x3 hk
  | m + 1, i, L, ks, x2, x3, hm, hk, hl, h => by
    rw [rng_cons (by omega)]
    refine ⟨_, rfl, _, rfl, _, len_S (by omega), _, rfl, _, _, rfl, ⟨by omega, by omega⟩, ⟨by omega, by omega⟩, ?_⟩
    have e0 : (i : Int) + 1 = (i : Int) + 1 + ((0 : Nat) : Int) := by omega
    rw [e0]
    refine parts_in (by omega) (a.length - i) 0 L ks _ (by omega) hk (by omega) fun ks' y3 h1 h2 => ?_
    rw [← e0, show (i : Int) + 1 = ((i + 1 : Nat) : Int) by omega]
    refine parts_out ha m (i + 1) _ ks' _ _ (by omega) h1 (by omega) fun ks2 y2 y3 h3 => h ks2 y2 y3 ?_
    rw [h3, List.range'_succ, List.flatMap_cons, List.foldl_append]
    unfold facsAt
    rw [List.range_eq_range']
theorem h_part_list (cx : Exc) : ∀ ds Q E, T_part_list cx ds Q E → ds.length = 1 ∧ w_part_list cx (startD 4 ds) (fnEnds Q E) := by
  rintro ds Q E ⟨a, rfl, ha, hq⟩
  refine ⟨rfl, ?_⟩
  refine s_setN (s_for ⟨_, len_S (by omega), _, rfl, ⟨by omega, by omega⟩, ?_⟩)
  refine parts_out ha a.length 0 [] [] _ _ (by omega) rfl (by simp; omega) fun ks' y2 y3 h => ?_
  refine ⟨ks', (uniq (facs a)).map St, rfl, ?_, ?_⟩
  · rw [h, ← List.range_eq_range']
    unfold keysOf uniq facs
    rw [List.map_map]
    rfl
  · rw [sort_keys]
    exact hq
set_option hygiene false in
local macro_rules | `(tactic| infer_instance) => `(tactic| with_reducible refine c_part_list (by ac_rfl) ?_)
theorem b_part_list {P : Program} {w : World} {K : PySem.W.Frag} {mg : Str → Option Value} {base : Heap} {cx : Exc} {f : Addr} (T : Txt K mg cx)  (cdv : Value) (A : Around) (outer : List Env) (s : Shared) (H : Hp) (E : XK) (hr : Room 0 (A.deeper (PyProof.Rows.envOfC "part_list" (defScope s_part_list) s.heap.objs.size f cdv))) :
    DSs (cxOf (L2N.CX P w) P w K mg base N_part_list "part_list" (defScope s_part_list) f cdv A outer s H E) (fun cls d _ H' => E cls d H') (defBody s_part_list) (w_part_list cx) := by
  have tk : L2N.Takes (cxOf (L2N.CX P w) P w K mg base N_part_list "part_list" (defScope s_part_list) f cdv A outer s H E) (fun cls d _ H' => E cls d H') := L2N.takes_of rfl rfl rfl rfl
  exact (dss_cons (ds_setN (i := 1) sc_part_list.nd rfl (Or.inl rfl) dn_dk)
    (dss_cons (ds_for (passes_of rfl) rfl (di_range1 T.n_range (da_cons (de_len T.n_len (da_cons (de_var 0 (pv 0)) da_nil)) da_nil)) (pg_name (i := 2) sc_part_list.nd rfl (Or.inl rfl)) (tgt1 2) (dss_one (ds_for (passes_of rfl) rfl (di_range2 T.n_range (da_cons (de_add (de_var 2 (pv 2)) de_int) (da_cons (de_add (de_len T.n_len (da_cons (de_var 0 (pv 0)) da_nil)) de_int) da_nil))) (pg_name (i := 3) sc_part_list.nd rfl (Or.inl rfl)) (tgt1 3) (dss_one (let k := (de_slice (de_var 0 (pv 0)) (do_some (de_var 2 (pv 2))) (do_some (de_var 3 (pv 3)))); st_putK (i := 1) (hr.un1) k (pg_sub (pv 1) k.pe (set_dict hr.un1)))))))
    (dss_one (ds_ret (de_sortDk rfl hr T.n_sorted (pv 1))))))
theorem ok_part_list {P : Program} {w : World} {K : PySem.W.Frag} {mg : Str → Option Value} {base : Heap} {cx : Exc} {f : Addr} {fd : FuncData} (F : Fun K "part_list" "part_list" s_part_list f fd) (T : Txt K mg cx) (gf : mg "part_list" = some (.ref f)) (bf : Binds K fd ["word"] [])  : Fn P w K mg base "part_list" ["word"] 1 (T_part_list cx) :=
  ⟨⟨f, fd, okD F sc_part_list (b_part_list T ) (by decide) (h_part_list cx), gf, F.kp, bf⟩, m_part_list cx⟩

/-! ### parts -/
abbrev N_parts : List Str := ["word"]
theorem sc_parts : FnScope N_parts ["word"] (defScope s_parts) := ⟨rfl, rfl, rfl, by decide +kernel, rfl, by decide +kernel, by decide +kernel⟩
def w_parts (cx : Exc) : WS :=
    (wSeq (wDrop (wCall (T_check_word cx) (wCons (wVar 0) wNil)))
    (wRet (wCall (T_part_list cx) (wCons (wVar 0) wNil))))
abbrev T_parts (cx : Exc) : PT := TW (.ref cx.InvalidWord) fun a => .list ((partsL a).map S)
theorem m_parts (cx : Exc) : MonoP (T_parts cx) := TW_mono
theorem h_parts (cx : Exc) : ∀ ds Q E, T_parts cx ds Q E → ds.length = 1 ∧ w_parts cx (startD 1 ds) (fnEnds Q E) := by
  rintro ds Q E ⟨d, rfl, hd, h1, h2⟩
  refine ⟨rfl, ?_⟩
  unfold w_parts
  (repeat infer_instance)
  refine ⟨d, rfl, hd, fun wd => ?_, fun wd => h1 wd⟩
  obtain ⟨a, rfl, wa⟩ := isWord_str wd
  have la := wordB_len wa
  have hq := h2 a rfl wa
  dsimp only at hq
  clear h1 h2
  (repeat infer_instance)
  exact hq
theorem b_parts {P : Program} {w : World} {K : PySem.W.Frag} {mg : Str → Option Value} {base : Heap} {cx : Exc} {f : Addr} (T : Txt K mg cx) (c_check_word : Fn P w K mg base "check_word" ["word"] 2 (T_check_word cx)) (c_part_list : Fn P w K mg base "part_list" ["word"] 1 (T_part_list cx)) (cdv : Value) (A : Around) (outer : List Env) (s : Shared) (H : Hp) (E : XK) (hr : Room 2 (A.deeper (PyProof.Rows.envOfC "parts" (defScope s_parts) s.heap.objs.size f cdv))) :
    DSs (cxOf (L2N.CX P w) P w K mg base N_parts "parts" (defScope s_parts) f cdv A outer s H E) (fun cls d _ H' => E cls d H') (defBody s_parts) (w_parts cx) := by
  have tk : L2N.Takes (cxOf (L2N.CX P w) P w K mg base N_parts "parts" (defScope s_parts) f cdv A outer s H E) (fun cls d _ H' => E cls d H') := L2N.takes_of rfl rfl rfl rfl
  exact (dss_cons (ds_expr (de_call c_check_word tk (hr.mono (by decide)) (da_cons (de_var 0 (pv 0)) da_nil)))
    (dss_one (ds_ret (de_call c_part_list tk (hr.mono (by decide)) (da_cons (de_var 0 (pv 0)) da_nil)))))
theorem ok_parts {P : Program} {w : World} {K : PySem.W.Frag} {mg : Str → Option Value} {base : Heap} {cx : Exc} {f : Addr} {fd : FuncData} (F : Fun K "parts" "parts" s_parts f fd) (T : Txt K mg cx) (gf : mg "parts" = some (.ref f)) (bf : Binds K fd ["word"] []) (c_check_word : Fn P w K mg base "check_word" ["word"] 2 (T_check_word cx)) (c_part_list : Fn P w K mg base "part_list" ["word"] 1 (T_part_list cx)) : Fn P w K mg base "parts" ["word"] 3 (T_parts cx) :=
  ⟨⟨f, fd, okD F sc_parts (b_parts T c_check_word c_part_list) (by decide) (h_parts cx), gf, F.kp, bf⟩, m_parts cx⟩

/-! ### check_two -/
abbrev N_check_two : List Str := ["one", "other"]
theorem sc_check_two : FnScope N_check_two ["one", "other"] (defScope s_check_two) := ⟨rfl, rfl, rfl, by decide +kernel, rfl, by decide +kernel, by decide +kernel⟩
def w_check_two (cx : Exc) : WS :=
    (wSeq (wDrop (wCall (T_check_word cx) (wCons (wVar 0) wNil)))
    (wDrop (wCall (T_check_word cx) (wCons (wVar 1) wNil))))
def T_check_two (cx : Exc) : PT := fun ds Q E => ∃ d e, ds = [d, e] ∧ fewD d = true ∧ fewD e = true ∧ (isWordD d = true → isWordD e = true → Q .none) ∧ (isWordD d = false ∨ isWordD e = false → E (.ref cx.InvalidWord))
theorem m_check_two (cx : Exc) : MonoP (T_check_two cx) := fun _ _ _ _ _ hq he ⟨d, e, h1, h2, h3, h4, h5⟩ => ⟨d, e, h1, h2, h3, fun x y => hq _ (h4 x y), fun z => he _ (h5 z)⟩
theorem h_check_two (cx : Exc) : ∀ ds Q E, T_check_two cx ds Q E → ds.length = 2 ∧ w_check_two cx (startD 2 ds) (fnEnds Q E) := by
  rintro ds Q E ⟨d, e, rfl, hd, he, h1, h2⟩
  exact ⟨rfl, d, rfl, hd, fun wd => ⟨e, rfl, he, fun we => h1 wd we, fun we => h2 (.inr we)⟩, fun wd => h2 (.inl wd)⟩
theorem b_check_two {P : Program} {w : World} {K : PySem.W.Frag} {mg : Str → Option Value} {base : Heap} {cx : Exc} {f : Addr} (T : Txt K mg cx) (c_check_word : Fn P w K mg base "check_word" ["word"] 2 (T_check_word cx)) (cdv : Value) (A : Around) (outer : List Env) (s : Shared) (H : Hp) (E : XK) (hr : Room 2 (A.deeper (PyProof.Rows.envOfC "check_two" (defScope s_check_two) s.heap.objs.size f cdv))) :
    DSs (cxOf (L2N.CX P w) P w K mg base N_check_two "check_two" (defScope s_check_two) f cdv A outer s H E) (fun cls d _ H' => E cls d H') (defBody s_check_two) (w_check_two cx) := by
  have tk : L2N.Takes (cxOf (L2N.CX P w) P w K mg base N_check_two "check_two" (defScope s_check_two) f cdv A outer s H E) (fun cls d _ H' => E cls d H') := L2N.takes_of rfl rfl rfl rfl
  exact (dss_cons (ds_expr (de_call c_check_word tk (hr.mono (by decide)) (da_cons (de_var 0 (pv 0)) da_nil)))
    (dss_one (ds_expr (de_call c_check_word tk (hr.mono (by decide)) (da_cons (de_var 1 (pv 1)) da_nil)))))
theorem ok_check_two {P : Program} {w : World} {K : PySem.W.Frag} {mg : Str → Option Value} {base : Heap} {cx : Exc} {f : Addr} {fd : FuncData} (F : Fun K "check_two" "check_two" s_check_two f fd) (T : Txt K mg cx) (gf : mg "check_two" = some (.ref f)) (bf : Binds K fd ["one", "other"] []) (c_check_word : Fn P w K mg base "check_word" ["word"] 2 (T_check_word cx)) : Fn P w K mg base "check_two" ["one", "other"] 3 (T_check_two cx) :=
  ⟨⟨f, fd, okD F sc_check_two (b_check_two T c_check_word) (by decide) (h_check_two cx), gf, F.kp, bf⟩, m_check_two cx⟩

/-! ### shared -/
abbrev N_shared : List Str := ["one", "other", "size"]
theorem sc_shared : FnScope N_shared ["one", "other"] (defScope s_shared) := ⟨rfl, rfl, rfl, by decide +kernel, rfl, by decide +kernel, by decide +kernel⟩
def w_shared (cx : Exc) : WS :=
    (wSeq (wFor (wRng3 (wCons (wCallF minF (wCons (wCallF lenD (wCons (wVar 0) wNil)) (wCons (wCallF lenD (wCons (wVar 1) wNil)) wNil))) (wCons (wC (.int 0)) (wCons (wUn negD (wC (.int 1))) wNil)))) (set1 2) (wIfS (wB (wOp eqD (wSl (wVar 0) (wOS (wOp subD (wCallF lenD (wCons (wVar 0) wNil)) (wVar 2))) wON) (wSl (wVar 1) wON (wOS (wVar 2))))) (wRet (wSl (wVar 1) wON (wOS (wVar 2)))) wNext))
    (wRet (wC (.str ""))))
def T_shared (_ : Exc) : PT := fun ds Q _ => ∃ a b, ds = [S a, S b] ∧ a.length ≤ 1000 ∧ b.length ≤ 1000 ∧ Q (S (b.take (lap a b)))
theorem m_shared (cx : Exc) : MonoP (T_shared cx) := fun _ _ _ _ _ hq _ ⟨a, b, h1, h2, h3, h4⟩ => ⟨a, b, h1, h2, h3, hq _ h4⟩
theorem h_shared (cx : Exc) : ∀ ds Q E, T_shared cx ds Q E → ds.length = 2 ∧ w_shared cx (startD 3 ds) (fnEnds Q E) := by
  rintro ds Q E ⟨a, b, rfl, ha, hb, hq⟩
  refine ⟨rfl, ?_⟩
  have key : ∀ (n : Nat) (s : SD), n ≤ a.length → n ≤ b.length → Q (S (b.take (lapFrom a b n))) →
      wForL (set1 2) (wIfS (wB (wOp eqD (wSl (wVar 0) (wOS (wOp subD (wCallF lenD (wCons (wVar 0) wNil)) (wVar 2))) wON) (wSl (wVar 1) wON (wOS (wVar 2))))) (wRet (wSl (wVar 1) wON (wOS (wVar 2)))) wNext) (rngDown (n : Int) 0) [.d (S a), .d (S b), s]
        { (fnEnds Q E) with nx := fun δ' => wRet (wC (.str "")) δ' (fnEnds Q E) } := by
    intro n
    induction n with
    | zero =>
      intro s _ _ h
      show Q (.str "")
      rw [empty_St]
      simpa [lapFrom] using h
    | succ n ih =>
      intro s h1 h2 h
      rw [rngDown_succ]
      refine ⟨_, rfl, _, len_S (by omega), _, rfl, _, rfl, _, sl_S (by omega), _, rfl, _, sl_S (by omega), _, eq_S _ _, _, rfl, ?_⟩
      rw [cut_from a (j := a.length - (n + 1)) (by omega), cut_to b (j := n + 1) rfl]
      unfold lapFrom at h
      by_cases e : a.drop (a.length - (n + 1)) = b.take (n + 1)
      · rw [if_pos e] at h
        refine if_true_of' e ⟨_, rfl, _, sl_S (by omega), ?_⟩
        rw [cut_to b (j := n + 1) rfl]
        exact h
      · rw [if_neg e] at h
        refine if_false_of' e ?_
        exact ih _ (by omega) (by omega) h
  refine ⟨_, len_S (by omega), _, len_S (by omega), _, rfl, _, rfl, _, 0, rfl, ?_, ⟨by decide, by decide⟩, ?_⟩
  · constructor <;> split <;> omega
  · have e : (if (b.length : Int) < (a.length : Int) then (b.length : Int) else (a.length : Int)) = ((min a.length b.length : Nat) : Int) := by split <;> omega
    rw [e]
    exact key _ .no (by omega) (by omega) hq
theorem b_shared {P : Program} {w : World} {K : PySem.W.Frag} {mg : Str → Option Value} {base : Heap} {cx : Exc} {f : Addr} (T : Txt K mg cx)  (cdv : Value) (A : Around) (outer : List Env) (s : Shared) (H : Hp) (E : XK) (hr : Room 0 (A.deeper (PyProof.Rows.envOfC "shared" (defScope s_shared) s.heap.objs.size f cdv))) :
    DSs (cxOf (L2N.CX P w) P w K mg base N_shared "shared" (defScope s_shared) f cdv A outer s H E) (fun cls d _ H' => E cls d H') (defBody s_shared) (w_shared cx) := by
  have tk : L2N.Takes (cxOf (L2N.CX P w) P w K mg base N_shared "shared" (defScope s_shared) f cdv A outer s H E) (fun cls d _ H' => E cls d H') := L2N.takes_of rfl rfl rfl rfl
  exact (dss_cons (ds_for (passes_of rfl) rfl (di_range3 T.n_range (da_cons (de_min rfl hr T.n_min (da_cons (de_len T.n_len (da_cons (de_var 0 (pv 0)) da_nil)) (da_cons (de_len T.n_len (da_cons (de_var 1 (pv 1)) da_nil)) da_nil))) (da_cons de_int (da_cons (de_neg de_int) da_nil)))) (pg_name (i := 2) sc_shared.nd rfl (Or.inl rfl)) (tgt1 2) (dss_one (ds_if (dt_eq hr (de_slice (de_var 0 (pv 0)) (do_some (de_sub (de_len T.n_len (da_cons (de_var 0 (pv 0)) da_nil)) (de_var 2 (pv 2)))) do_none) (de_slice (de_var 1 (pv 1)) do_none (do_some (de_var 2 (pv 2))))) (dss_one (ds_ret (de_slice (de_var 1 (pv 1)) do_none (do_some (de_var 2 (pv 2)))))) dss_nil)))
    (dss_one (ds_ret de_str)))
theorem ok_shared {P : Program} {w : World} {K : PySem.W.Frag} {mg : Str → Option Value} {base : Heap} {cx : Exc} {f : Addr} {fd : FuncData} (F : Fun K "shared" "shared" s_shared f fd) (T : Txt K mg cx) (gf : mg "shared" = some (.ref f)) (bf : Binds K fd ["one", "other"] [])  : Fn P w K mg base "shared" ["one", "other"] 1 (T_shared cx) :=
  ⟨⟨f, fd, okD F sc_shared (b_shared T ) (by decide) (h_shared cx), gf, F.kp, bf⟩, m_shared cx⟩

/-! ### overlap -/
abbrev N_overlap : List Str := ["one", "other"]
theorem sc_overlap : FnScope N_overlap ["one", "other"] (defScope s_overlap) := ⟨rfl, rfl, rfl, by decide +kernel, rfl, by decide +kernel, by decide +kernel⟩
def w_overlap (cx : Exc) : WS :=
    (wSeq (wDrop (wCall (T_check_two cx) (wCons (wVar 0) (wCons (wVar 1) wNil))))
    (wRet (wCall (T_shared cx) (wCons (wVar 0) (wCons (wVar 1) wNil)))))
def T_overlap (cx : Exc) : PT := fun ds Q E => ∃ d e, ds = [d, e] ∧ fewD d = true ∧ fewD e = true ∧ (isWordD d = false ∨ isWordD e = false → E (.ref cx.InvalidWord)) ∧
  ∀ a b, d = S a → e = S b → wordB a = true → wordB b = true → Q (S (b.take (lap a b)))
theorem m_overlap (cx : Exc) : MonoP (T_overlap cx) := fun _ _ _ _ _ hq he ⟨d, e, h1, h2, h3, h4, h5⟩ => ⟨d, e, h1, h2, h3, fun z => he _ (h4 z), fun a b ea eb wa wb => hq _ (h5 a b ea eb wa wb)⟩
theorem h_overlap (cx : Exc) : ∀ ds Q E, T_overlap cx ds Q E → ds.length = 2 ∧ w_overlap cx (startD 2 ds) (fnEnds Q E) := by
  rintro ds Q E ⟨d, e, rfl, hd, he, h1, h2⟩
  refine ⟨rfl, d, e, rfl, hd, he, fun wd we => ?_, fun z => h1 z⟩
  obtain ⟨a, rfl, wa⟩ := isWord_str wd
  obtain ⟨b, rfl, wb⟩ := isWord_str we
  have := wordB_len wa
  have := wordB_len wb
  exact ⟨a, b, rfl, by omega, by omega, h2 a b rfl rfl wa wb⟩
theorem b_overlap {P : Program} {w : World} {K : PySem.W.Frag} {mg : Str → Option Value} {base : Heap} {cx : Exc} {f : Addr} (T : Txt K mg cx) (c_check_two : Fn P w K mg base "check_two" ["one", "other"] 3 (T_check_two cx)) (c_shared : Fn P w K mg base "shared" ["one", "other"] 1 (T_shared cx)) (cdv : Value) (A : Around) (outer : List Env) (s : Shared) (H : Hp) (E : XK) (hr : Room 3 (A.deeper (PyProof.Rows.envOfC "overlap" (defScope s_overlap) s.heap.objs.size f cdv))) :
    DSs (cxOf (L2N.CX P w) P w K mg base N_overlap "overlap" (defScope s_overlap) f cdv A outer s H E) (fun cls d _ H' => E cls d H') (defBody s_overlap) (w_overlap cx) := by
  have tk : L2N.Takes (cxOf (L2N.CX P w) P w K mg base N_overlap "overlap" (defScope s_overlap) f cdv A outer s H E) (fun cls d _ H' => E cls d H') := L2N.takes_of rfl rfl rfl rfl
  exact (dss_cons (ds_expr (de_call c_check_two tk (hr.mono (by decide)) (da_cons (de_var 0 (pv 0)) (da_cons (de_var 1 (pv 1)) da_nil))))
    (dss_one (ds_ret (de_call c_shared tk (hr.mono (by decide)) (da_cons (de_var 0 (pv 0)) (da_cons (de_var 1 (pv 1)) da_nil))))))
theorem ok_overlap {P : Program} {w : World} {K : PySem.W.Frag} {mg : Str → Option Value} {base : Heap} {cx : Exc} {f : Addr} {fd : FuncData} (F : Fun K "overlap" "overlap" s_overlap f fd) (T : Txt K mg cx) (gf : mg "overlap" = some (.ref f)) (bf : Binds K fd ["one", "other"] []) (c_check_two : Fn P w K mg base "check_two" ["one", "other"] 3 (T_check_two cx)) (c_shared : Fn P w K mg base "shared" ["one", "other"] 1 (T_shared cx)) : Fn P w K mg base "overlap" ["one", "other"] 4 (T_overlap cx) :=
  ⟨⟨f, fd, okD F sc_overlap (b_overlap T c_check_two c_shared) (by decide) (h_overlap cx), gf, F.kp, bf⟩, m_overlap cx⟩

/-! ### same_back -/
abbrev N_same_back : List Str := ["word"]
theorem sc_same_back : FnScope N_same_back ["word"] (defScope s_same_back) := ⟨rfl, rfl, rfl, by decide +kernel, rfl, by decide +kernel, by decide +kernel⟩
def w_same_back (cx : Exc) : WS :=
    (wRet (wAndV (wOp neD (wVar 0) (wC (.str ""))) (wOp eqD (wVar 0) (wUn revS (wVar 0)))))
def T_same_back (_ : Exc) : PT := fun ds Q _ => ∃ (a : List Nat), ds = [S a] ∧ a.length ≤ 1000 ∧ Q (.bool (mirB a))
theorem m_same_back (cx : Exc) : MonoP (T_same_back cx) := fun _ _ _ _ _ hq _ ⟨a, h1, h2, h3⟩ => ⟨a, h1, h2, hq _ h3⟩
theorem c_same_back {cx : Exc} {a : List Nat} {Q : PyData → Prop} {E : Value → Prop} (h2 : a.length ≤ 1000) (h : Q (.bool (mirB a))) : T_same_back cx [S a] Q E := ⟨a, rfl, h2, h⟩
theorem h_same_back (cx : Exc) : ∀ ds Q E, T_same_back cx ds Q E → ds.length = 1 ∧ w_same_back cx (startD 1 ds) (fnEnds Q E) := by
  rintro ds Q E ⟨a, rfl, h2, hq⟩
  refine ⟨rfl, ?_⟩
  unfold w_same_back
  (repeat infer_instance)
  unfold mirB at hq
  refine iteN (fun h => ?_) (fun h => ?_)
  · (repeat infer_instance)
    rw [decide_eq_false h] at hq
    exact hq
  · rw [decide_eq_true h] at hq
    exact hq
set_option hygiene false in
local macro_rules | `(tactic| infer_instance) => `(tactic| with_reducible refine c_same_back (by ac_rfl) ?_)
theorem b_same_back {P : Program} {w : World} {K : PySem.W.Frag} {mg : Str → Option Value} {base : Heap} {cx : Exc} {f : Addr} (T : Txt K mg cx)  (cdv : Value) (A : Around) (outer : List Env) (s : Shared) (H : Hp) (E : XK) (hr : Room 0 (A.deeper (PyProof.Rows.envOfC "same_back" (defScope s_same_back) s.heap.objs.size f cdv))) :
    DSs (cxOf (L2N.CX P w) P w K mg base N_same_back "same_back" (defScope s_same_back) f cdv A outer s H E) (fun cls d _ H' => E cls d H') (defBody s_same_back) (w_same_back cx) := by
  have tk : L2N.Takes (cxOf (L2N.CX P w) P w K mg base N_same_back "same_back" (defScope s_same_back) f cdv A outer s H E) (fun cls d _ H' => E cls d H') := L2N.takes_of rfl rfl rfl rfl
  exact (dss_one (ds_ret (de_and (de_ne hr (de_var 0 (pv 0)) de_str) (de_one (de_eq hr (de_var 0 (pv 0)) (de_revS (de_var 0 (pv 0))))))))
theorem ok_same_back {P : Program} {w : World} {K : PySem.W.Frag} {mg : Str → Option Value} {base : Heap} {cx : Exc} {f : Addr} {fd : FuncData} (F : Fun K "same_back" "same_back" s_same_back f fd) (T : Txt K mg cx) (gf : mg "same_back" = some (.ref f)) (bf : Binds K fd ["word"] [])  : Fn P w K mg base "same_back" ["word"] 1 (T_same_back cx) :=
  ⟨⟨f, fd, okD F sc_same_back (b_same_back T ) (by decide) (h_same_back cx), gf, F.kp, bf⟩, m_same_back cx⟩

/-! ### mirror_list -/
abbrev N_mirror_list : List Str := ["word", "one"]
theorem sc_mirror_list : FnScope N_mirror_list ["word"] (defScope s_mirror_list) := ⟨rfl, rfl, rfl, by decide +kernel, rfl, by decide +kernel, by decide +kernel⟩
def w_mirror_list (cx : Exc) : WS :=
    (wRet (wFz (wLc (wIterL (wCall (T_part_list cx) (wCons (wVar 0) wNil))) (set1 1) [1] (wB (wCall (T_same_back cx) (wCons (wVar 1) wNil))) (wVar 1))))
def T_mirror_list (_ : Exc) : PT := fun ds Q _ => ∃ (a : List Nat), ds = [S a] ∧ a.length ≤ 24 ∧ Q (.list ((mirL a).map S))
theorem m_mirror_list (cx : Exc) : MonoP (T_mirror_list cx) := fun _ _ _ _ _ hq _ ⟨a, h1, h2, h3⟩ => ⟨a, h1, h2, hq _ h3⟩
theorem c_mirror_list {cx : Exc} {a : List Nat} {Q : PyData → Prop} {E : Value → Prop} (h2 : a.length ≤ 24) (h : Q (.list ((mirL a).map S))) : T_mirror_list cx [S a] Q E := ⟨a, rfl, h2, h⟩
theorem parts_some {a w : List Nat} (h : w ∈ partsL a) : ∃ i j, w = (a.take j).drop i := by
  have h1 : w ∈ uniq (facs a) := (List.mergeSort_perm _ _).mem_iff.mp h
  have key : ∀ (L acc : List (List Nat)), w ∈ L.foldl addW acc → w ∈ acc ∨ w ∈ L := fun L => by
    induction L with
    | nil => exact fun acc h => .inl h
    | cons x L ih =>
      intro acc h
      rcases ih _ h with q | q
      · unfold addW at q
        split at q
        · exact .inl q
        · rcases List.mem_append.mp q with z | z
          · exact .inl z
          · right
            have : w = x := by simpa using z
            simp [this]
      · right
        simp [q]
  rcases key _ _ h1 with q | q
  · cases q
  · obtain ⟨i, _, hi⟩ := List.mem_flatMap.mp q
    obtain ⟨k, _, rfl⟩ := List.mem_map.mp hi
    exact ⟨i, i + 1 + k, rfl⟩
theorem parts_count {a : List Nat} (h : a.length ≤ 24) : (partsL a).length ≤ 1000 := by
  have h1 : (partsL a).length = (uniq (facs a)).length := (List.mergeSort_perm _ _).length_eq
  have key : ∀ (L acc : List (List Nat)), (L.foldl addW acc).length ≤ acc.length + L.length := fun L => by
    induction L with
    | nil => simp
    | cons x L ih =>
      intro acc
      rw [List.foldl_cons]
      have := ih (addW acc x)
      have h2 : (addW acc x).length ≤ acc.length + 1 := by
        unfold addW
        split <;> simp
      simp only [List.length_cons]
      omega
  have h2 := key (facs a) []
  have h3 : (facs a).length ≤ a.length * a.length := by
    unfold facs
    have := flat_len (f := facsAt a) (m := a.length) (fun i => by unfold facsAt; simp) (List.range a.length)
    simpa using this
  have h4 : a.length * a.length ≤ 24 * 24 := Nat.mul_le_mul h h
  unfold uniq at h1
  simp at h2
  omega
theorem h_mirror_list (cx : Exc) : ∀ ds Q E, T_mirror_list cx ds Q E → ds.length = 1 ∧ w_mirror_list cx (startD 2 ds) (fnEnds Q E) := by
  rintro ds Q E ⟨a, rfl, h2, hq⟩
  refine ⟨rfl, ?_⟩
  unfold w_mirror_list
  have hc := parts_count h2
  (repeat infer_instance)
  refine lcF mirB S (by ac_rfl) (fun x hx => ⟨_, rfl, rfl, fun P hP => ?_, fun hp P hP => ?_⟩) ?_
  · obtain ⟨i, j, rfl⟩ := parts_some hx
    (repeat infer_instance)
    exact hP
  · (repeat infer_instance)
    exact hP
  · (repeat infer_instance)
    exact hq
set_option hygiene false in
local macro_rules | `(tactic| infer_instance) => `(tactic| with_reducible refine c_mirror_list (by ac_rfl) ?_)
theorem b_mirror_list {P : Program} {w : World} {K : PySem.W.Frag} {mg : Str → Option Value} {base : Heap} {cx : Exc} {f : Addr} (T : Txt K mg cx) (c_part_list : Fn P w K mg base "part_list" ["word"] 1 (T_part_list cx)) (c_same_back : Fn P w K mg base "same_back" ["word"] 1 (T_same_back cx)) (cdv : Value) (A : Around) (outer : List Env) (s : Shared) (H : Hp) (E : XK) (hr : Room 1 (A.deeper (PyProof.Rows.envOfC "mirror_list" (defScope s_mirror_list) s.heap.objs.size f cdv))) :
    DSs (cxOf (L2N.CX P w) P w K mg base N_mirror_list "mirror_list" (defScope s_mirror_list) f cdv A outer s H E) (fun cls d _ H' => E cls d H') (defBody s_mirror_list) (w_mirror_list cx) := by
  have tk : L2N.Takes (cxOf (L2N.CX P w) P w K mg base N_mirror_list "mirror_list" (defScope s_mirror_list) f cdv A outer s H E) (fun cls d _ H' => E cls d H') := L2N.takes_of rfl rfl rfl rfl
  exact (dss_one (ds_ret (de_new (dn_lc1 (own := [("one", 1)]) rfl sc_mirror_list.nd (di_list (de_call c_part_list tk (hr.mono (by decide)) (da_cons (de_var 0 (pv 0)) da_nil))) (blkOk_by (own := [("one", 1)]) (N := N_mirror_list) (sc := defScope s_mirror_list) (by decide +kernel)) (fun _ _ _ _ _ => (pg_name (i := 1) sc_mirror_list.nd rfl (by first | exact Or.inl rfl | exact Or.inr rfl))) (tgt1 1) (fun _ _ _ _ _ => (dt_val (de_call c_same_back takes0 (hr.mono (by decide)) (da_cons (de_var 1 (pv 1)) da_nil)))) (fun _ _ _ _ _ => (de_var 1 (pv 1)))))))
theorem ok_mirror_list {P : Program} {w : World} {K : PySem.W.Frag} {mg : Str → Option Value} {base : Heap} {cx : Exc} {f : Addr} {fd : FuncData} (F : Fun K "mirror_list" "mirror_list" s_mirror_list f fd) (T : Txt K mg cx) (gf : mg "mirror_list" = some (.ref f)) (bf : Binds K fd ["word"] []) (c_part_list : Fn P w K mg base "part_list" ["word"] 1 (T_part_list cx)) (c_same_back : Fn P w K mg base "same_back" ["word"] 1 (T_same_back cx)) : Fn P w K mg base "mirror_list" ["word"] 2 (T_mirror_list cx) :=
  ⟨⟨f, fd, okD F sc_mirror_list (b_mirror_list T c_part_list c_same_back) (by decide) (h_mirror_list cx), gf, F.kp, bf⟩, m_mirror_list cx⟩

/-! ### mirrors -/
abbrev N_mirrors : List Str := ["word"]
theorem sc_mirrors : FnScope N_mirrors ["word"] (defScope s_mirrors) := ⟨rfl, rfl, rfl, by decide +kernel, rfl, by decide +kernel, by decide +kernel⟩
def w_mirrors (cx : Exc) : WS :=
    (wSeq (wDrop (wCall (T_check_word cx) (wCons (wVar 0) wNil)))
    (wRet (wCall (T_mirror_list cx) (wCons (wVar 0) wNil))))
abbrev T_mirrors (cx : Exc) : PT := TW (.ref cx.InvalidWord) fun a => .list ((mirL a).map S)
theorem m_mirrors (cx : Exc) : MonoP (T_mirrors cx) := TW_mono
theorem h_mirrors (cx : Exc) : ∀ ds Q E, T_mirrors cx ds Q E → ds.length = 1 ∧ w_mirrors cx (startD 1 ds) (fnEnds Q E) := by
  rintro ds Q E ⟨d, rfl, hd, h1, h2⟩
  refine ⟨rfl, ?_⟩
  unfold w_mirrors
  (repeat infer_instance)
  refine ⟨d, rfl, hd, fun wd => ?_, fun wd => h1 wd⟩
  obtain ⟨a, rfl, wa⟩ := isWord_str wd
  have la := wordB_len wa
  have hq := h2 a rfl wa
  dsimp only at hq
  clear h1 h2
  (repeat infer_instance)
  exact hq
theorem b_mirrors {P : Program} {w : World} {K : PySem.W.Frag} {mg : Str → Option Value} {base : Heap} {cx : Exc} {f : Addr} (T : Txt K mg cx) (c_check_word : Fn P w K mg base "check_word" ["word"] 2 (T_check_word cx)) (c_mirror_list : Fn P w K mg base "mirror_list" ["word"] 2 (T_mirror_list cx)) (cdv : Value) (A : Around) (outer : List Env) (s : Shared) (H : Hp) (E : XK) (hr : Room 2 (A.deeper (PyProof.Rows.envOfC "mirrors" (defScope s_mirrors) s.heap.objs.size f cdv))) :
    DSs (cxOf (L2N.CX P w) P w K mg base N_mirrors "mirrors" (defScope s_mirrors) f cdv A outer s H E) (fun cls d _ H' => E cls d H') (defBody s_mirrors) (w_mirrors cx) := by
  have tk : L2N.Takes (cxOf (L2N.CX P w) P w K mg base N_mirrors "mirrors" (defScope s_mirrors) f cdv A outer s H E) (fun cls d _ H' => E cls d H') := L2N.takes_of rfl rfl rfl rfl
  exact (dss_cons (ds_expr (de_call c_check_word tk (hr.mono (by decide)) (da_cons (de_var 0 (pv 0)) da_nil)))
    (dss_one (ds_ret (de_call c_mirror_list tk (hr.mono (by decide)) (da_cons (de_var 0 (pv 0)) da_nil)))))
theorem ok_mirrors {P : Program} {w : World} {K : PySem.W.Frag} {mg : Str → Option Value} {base : Heap} {cx : Exc} {f : Addr} {fd : FuncData} (F : Fun K "mirrors" "mirrors" s_mirrors f fd) (T : Txt K mg cx) (gf : mg "mirrors" = some (.ref f)) (bf : Binds K fd ["word"] []) (c_check_word : Fn P w K mg base "check_word" ["word"] 2 (T_check_word cx)) (c_mirror_list : Fn P w K mg base "mirror_list" ["word"] 2 (T_mirror_list cx)) : Fn P w K mg base "mirrors" ["word"] 3 (T_mirrors cx) :=
  ⟨⟨f, fd, okD F sc_mirrors (b_mirrors T c_check_word c_mirror_list) (by decide) (h_mirrors cx), gf, F.kp, bf⟩, m_mirrors cx⟩

/-! ### last_mirrors -/
abbrev N_last_mirrors : List Str := ["word", "found", "end", "size"]
theorem sc_last_mirrors : FnScope N_last_mirrors ["word"] (defScope s_last_mirrors) := ⟨rfl, rfl, rfl, by decide +kernel, rfl, by decide +kernel, by decide +kernel⟩
def w_last_mirrors (cx : Exc) : WS :=
    (wSeq (wDrop (wCall (T_check_word cx) (wCons (wVar 0) wNil)))
    (wSeq (wSetN 1 (wLstN wNil))
    (wSeq (wFor (wRng2 (wCons (wC (.int 1)) (wCons (wOp addD (wCallF lenD (wCons (wVar 0) wNil)) (wC (.int 1))) wNil))) (set1 2) (wApp 1 (wOp ixD (wFz (wLc (wRng3 (wCons (wVar 2) (wCons (wC (.int 0)) (wCons (wUn negD (wC (.int 1))) wNil)))) (set1 3) [3] (wB (wCall (T_same_back cx) (wCons (wSl (wVar 0) (wOS (wOp subD (wVar 2) (wVar 3))) (wOS (wVar 2))) wNil))) (wVar 3))) (wC (.int 0)))))
    (wRet (wVar 1)))))
abbrev T_last_mirrors (cx : Exc) : PT := TW (.ref cx.InvalidWord) fun a => .list (nats (lastM a))
theorem m_last_mirrors (cx : Exc) : MonoP (T_last_mirrors cx) := TW_mono
theorem h_last_mirrors (cx : Exc) : ∀ ds Q E, T_last_mirrors cx ds Q E → ds.length = 1 ∧ w_last_mirrors cx (startD 4 ds) (fnEnds Q E) := by
  rintro ds Q E ⟨d, rfl, hd, h1, h2⟩
  refine ⟨rfl, ?_⟩
  unfold w_last_mirrors
  (repeat infer_instance)
  refine ⟨d, rfl, hd, fun wd => ?_, fun wd => h1 wd⟩
  obtain ⟨a, rfl, wa⟩ := isWord_str wd
  have la := wordB_len wa
  have hq := h2 a rfl wa
  dsimp only at hq
  clear h1 h2
  (repeat infer_instance)
  try simp only [startD, wipeD, restoreD, keepS, twnSet, List.map_nil, List.nil_append, List.length_nil, Nat.sub_zero, List.replicate_succ, List.replicate_zero, List.set_cons_zero, List.set_cons_succ, List.getElem?_cons_zero, List.getElem?_cons_succ]
  rw [rng_of 1 (a.length + 1) (by rfl) (by omega), show a.length + 1 - 1 = a.length by omega]
  refine for_range (fun j δ => ∃ k y2 y3, j = k + 1 ∧ δ = [.d (S a), .own (.lst (nats ((List.range' 1 k).map (lastAt a)))), y2, y3]) _ _ _ ⟨0, _, _, rfl, rfl⟩ ?_ ?_
  · rintro δ ⟨k, y2, y3, hk, rfl⟩
    have : k = a.length := by omega
    subst this
    dsimp only
    (repeat infer_instance)
    exact hq
  · rintro j hj1 hj2 δ ⟨k, y2, y3, rfl, rfl⟩ xs ih
    refine ⟨_, rfl, ?_⟩
    try simp only [startD, wipeD, restoreD, keepS, twnSet, List.map_nil, List.nil_append, List.length_nil, Nat.sub_zero, List.replicate_succ, List.replicate_zero, List.set_cons_zero, List.set_cons_succ, List.getElem?_cons_zero, List.getElem?_cons_succ]
    (repeat infer_instance)
    rw [rngDown_nat]
    refine lcF (fun s => mirB ((a.take (k + 1)).drop (k + 1 - s))) (fun s => .int (s : Int)) (by rw [down_len]; omega) (fun x hx => ⟨_, rfl, rfl, fun P hP => ?_, fun hp P hP => ?_⟩) ?_
    · have := mem_down.mp hx
      (repeat infer_instance)
      rw [Int.toNat_natCast, show (((k + 1 : Nat) : Int) - (x : Int)).toNat = k + 1 - x by omega]
      exact hP
    · (repeat infer_instance)
      exact hP
    (repeat infer_instance)
    obtain ⟨t, e⟩ := lastC_head (a := a) (e := k + 1) (by omega) (by omega)
    unfold lastC at e
    rw [e]
    refine exs (at0 _ _) ?_
    (repeat infer_instance)
    have e3 : nats ((List.range' 1 (k + 1)).map (lastAt a)) = nats ((List.range' 1 k).map (lastAt a)) ++ [.int (lastAt a (k + 1) : Nat)] := by
      rw [List.range'_concat]
      simp [nats, Nat.add_comm]
    refine ih _ ⟨k + 1, ?_, ?_, rfl, ?_⟩
    rotate_left 2
    rw [e3]
    rfl
theorem b_last_mirrors {P : Program} {w : World} {K : PySem.W.Frag} {mg : Str → Option Value} {base : Heap} {cx : Exc} {f : Addr} (T : Txt K mg cx) (c_check_word : Fn P w K mg base "check_word" ["word"] 2 (T_check_word cx)) (c_same_back : Fn P w K mg base "same_back" ["word"] 1 (T_same_back cx)) (cdv : Value) (A : Around) (outer : List Env) (s : Shared) (H : Hp) (E : XK) (hr : Room 2 (A.deeper (PyProof.Rows.envOfC "last_mirrors" (defScope s_last_mirrors) s.heap.objs.size f cdv))) :
    DSs (cxOf (L2N.CX P w) P w K mg base N_last_mirrors "last_mirrors" (defScope s_last_mirrors) f cdv A outer s H E) (fun cls d _ H' => E cls d H') (defBody s_last_mirrors) (w_last_mirrors cx) := by
  have tk : L2N.Takes (cxOf (L2N.CX P w) P w K mg base N_last_mirrors "last_mirrors" (defScope s_last_mirrors) f cdv A outer s H E) (fun cls d _ H' => E cls d H') := L2N.takes_of rfl rfl rfl rfl
  exact (dss_cons (ds_expr (de_call c_check_word tk (hr.mono (by decide)) (da_cons (de_var 0 (pv 0)) da_nil)))
    (dss_cons (ds_setN (i := 1) sc_last_mirrors.nd rfl (Or.inl rfl) (dn_lst da_nil))
    (dss_cons (ds_for (passes_of rfl) rfl (di_range2 T.n_range (da_cons de_int (da_cons (de_add (de_len T.n_len (da_cons (de_var 0 (pv 0)) da_nil)) de_int) da_nil))) (pg_name (i := 2) sc_last_mirrors.nd rfl (Or.inr rfl)) (tgt1 2) (dss_one (st_append (i := 1) (de_ix (de_new (dn_lc1 (own := [("size", 3)]) rfl sc_last_mirrors.nd (di_range3 T.n_range (da_cons (de_var 2 (pv 2)) (da_cons de_int (da_cons (de_neg de_int) da_nil)))) (blkOk_by (own := [("size", 3)]) (N := N_last_mirrors) (sc := defScope s_last_mirrors) (by decide +kernel)) (fun _ _ _ _ _ => (pg_name (i := 3) sc_last_mirrors.nd rfl (by first | exact Or.inl rfl | exact Or.inr rfl))) (tgt1 3) (fun _ _ _ _ _ => (dt_val (de_call c_same_back takes0 (hr.mono (by decide)) (da_cons (de_slice (de_var 0 (pv 0)) (do_some (de_sub (de_var 2 (pv 2)) (de_var 3 (pv 3)))) (do_some (de_var 2 (pv 2)))) da_nil)))) (fun _ _ _ _ _ => (de_var 3 (pv 3))))) de_int) (pv 1))))
    (dss_one (ds_ret (de_var 1 (pv 1)))))))
theorem ok_last_mirrors {P : Program} {w : World} {K : PySem.W.Frag} {mg : Str → Option Value} {base : Heap} {cx : Exc} {f : Addr} {fd : FuncData} (F : Fun K "last_mirrors" "last_mirrors" s_last_mirrors f fd) (T : Txt K mg cx) (gf : mg "last_mirrors" = some (.ref f)) (bf : Binds K fd ["word"] []) (c_check_word : Fn P w K mg base "check_word" ["word"] 2 (T_check_word cx)) (c_same_back : Fn P w K mg base "same_back" ["word"] 1 (T_same_back cx)) : Fn P w K mg base "last_mirrors" ["word"] 3 (T_last_mirrors cx) :=
  ⟨⟨f, fd, okD F sc_last_mirrors (b_last_mirrors T c_check_word c_same_back) (by decide) (h_last_mirrors cx), gf, F.kp, bf⟩, m_last_mirrors cx⟩

/-! ### best_mirrors -/
abbrev N_best_mirrors : List Str := ["word", "best", "end", "some", "start"]
theorem sc_best_mirrors : FnScope N_best_mirrors ["word"] (defScope s_best_mirrors) := ⟨rfl, rfl, rfl, by decide +kernel, rfl, by decide +kernel, by decide +kernel⟩
def w_best_mirrors (cx : Exc) : WS :=
    (wSeq (wSetN 1 (wLstN (wCons (wFz (wLstN wNil)) wNil)))
    (wSeq (wFor (wRng2 (wCons (wC (.int 1)) (wCons (wOp addD (wCallF lenD (wCons (wVar 0) wNil)) (wC (.int 1))) wNil))) (set1 2) (wSeq (wSetN 3 (wLstN wNil))
    (wSeq (wFor (wRng1 (wCons (wVar 2) wNil)) (set1 4) (wIfS (wB (wCall (T_same_back cx) (wCons (wSl (wVar 0) (wOS (wVar 4)) (wOS (wVar 2))) wNil))) (wApp 3 (wTup (wCons (wCallF lenD (wCons (wIxV 1 (wVar 4)) wNil)) (wCons (wOp addD (wIxV 1 (wVar 4)) (wFz (wLstN (wCons (wSl (wVar 0) (wOS (wVar 4)) (wOS (wVar 2))) wNil)))) wNil)))) wNext))
    (wApp 1 (wOp ixD (wCallF minF (wCons (wVar 3) wNil)) (wC (.int 1)))))))
    (wRet (wIxV 1 (wUn negD (wC (.int 1)))))))
abbrev wsL (L : List (List Nat)) : PyData := .list (L.map S)
def T_best_mirrors (_ : Exc) : PT := fun ds Q _ => ∃ (a : List Nat), ds = [S a] ∧ a.length ≤ 1000 ∧ Q (wsL (bestL a))
theorem m_best_mirrors (cx : Exc) : MonoP (T_best_mirrors cx) := fun _ _ _ _ _ hq _ ⟨a, h1, h2, h3⟩ => ⟨a, h1, h2, hq _ h3⟩
theorem c_best_mirrors {cx : Exc} {a : List Nat} {Q : PyData → Prop} {E : Value → Prop} (h2 : a.length ≤ 1000) (h : Q (wsL (bestL a))) : T_best_mirrors cx [S a] Q E := ⟨a, rfl, h2, h⟩
theorem bst_at {a : List Nat} {n s : Nat} (h : s ≤ n) : ixD (.list ((bst a n).map wsL)) (.int (s : Int)) = some (wsL (bstAt a s)) := by
  refine at_get (by omega) ?_
  have := bst_get a n s h
  rw [List.getD_eq_getElem?_getD] at this
  rw [Int.toNat_natCast, List.getElem?_map]
  have hl : s < (bst a n).length := by rw [bst_len]; omega
  rw [List.getElem?_eq_getElem hl] at this ⊢
  simp only [Option.getD_some] at this
  rw [Option.map_some, this]
theorem bstAt_len {a : List Nat} {s : Nat} (h : s ≤ a.length) : (bstAt a s).length ≤ a.length := by
  have h1 := (table a s h).1
  have : ∀ L : List (List Nat), (∀ w ∈ L, mirB w = true) → L.length ≤ L.flatten.length := fun L => by
    induction L with
    | nil => simp
    | cons w L ih =>
      intro hL
      have := ih fun v hv => hL v (List.mem_cons_of_mem _ hv)
      have h0 : 0 < w.length := List.length_pos_iff.mpr (mirB_iff.mp (hL w List.mem_cons_self)).1
      simp only [List.length_cons, List.flatten_cons, List.length_append]
      omega
  have h2 := this _ h1.2
  rw [h1.1] at h2
  simp at h2
  omega
theorem h_best_mirrors (cx : Exc) : ∀ ds Q E, T_best_mirrors cx ds Q E → ds.length = 1 ∧ w_best_mirrors cx (startD 5 ds) (fnEnds Q E) := by
  rintro ds Q E ⟨a, rfl, h2, hq⟩
  refine ⟨rfl, ?_⟩
  unfold w_best_mirrors
  (repeat infer_instance)
  try simp only [startD, wipeD, restoreD, keepS, twnSet, List.map_nil, List.nil_append, List.length_nil, Nat.sub_zero, List.replicate_succ, List.replicate_zero, List.set_cons_zero, List.set_cons_succ, List.getElem?_cons_zero, List.getElem?_cons_succ]
  rw [rng_of 1 (a.length + 1) (by rfl) (by omega), show a.length + 1 - 1 = a.length by omega]
  refine for_range (fun j δ => ∃ k y2 y3 y4, j = k + 1 ∧ δ = [.d (S a), .own (.lst ((bst a k).map wsL)), y2, y3, y4]) _ _ _ ⟨0, _, _, _, rfl, rfl⟩ ?_ ?_
  · rintro δ ⟨k, y2, y3, y4, hk, rfl⟩
    have : k = a.length := by omega
    subst this
    dsimp only
    (repeat infer_instance)
    refine exs (at_last (x := wsL (bestL a)) ?_) ?_
    · rw [List.getLast?_map, List.getLast?_eq_getElem?, bst_len]
      have := bst_get a a.length a.length (Nat.le_refl _)
      rw [List.getD_eq_getElem?_getD] at this
      have hl : a.length < (bst a a.length).length := by rw [bst_len]; omega
      rw [show a.length + 1 - 1 = a.length by omega]
      rw [List.getElem?_eq_getElem hl] at this ⊢
      simp only [Option.getD_some] at this
      rw [Option.map_some, this]
      rfl
    · exact hq
  · rintro j hj1 hj2 δ ⟨k, y2, y3, y4, rfl, rfl⟩ xs ih
    refine ⟨_, rfl, ?_⟩
    try simp only [startD, wipeD, restoreD, keepS, twnSet, List.map_nil, List.nil_append, List.length_nil, Nat.sub_zero, List.replicate_succ, List.replicate_zero, List.set_cons_zero, List.set_cons_succ, List.getElem?_cons_zero, List.getElem?_cons_succ]
    (repeat infer_instance)
    try simp only [startD, wipeD, restoreD, keepS, twnSet, List.map_nil, List.nil_append, List.length_nil, Nat.sub_zero, List.replicate_succ, List.replicate_zero, List.set_cons_zero, List.set_cons_succ, List.getElem?_cons_zero, List.getElem?_cons_succ]
    rw [rng_nat]
    have hf := fun j : Nat => List.length_filter_le (fun s => mirB ((a.take (k + 1)).drop s)) (List.range j)
    refine for_range0 (fun j δ => ∃ y4, δ = [.d (S a), .own (.lst ((bst a k).map wsL)), .d (.int ((k + 1 : Nat) : Int)), .own (.lst ((((List.range j).filter fun s => mirB ((a.take (k + 1)).drop s)).map fun s => bstAt a s ++ [(a.take (k + 1)).drop s]).map pairM)), y4]) _ _ ⟨_, rfl⟩ ?_ ?_
    · rintro δ ⟨y4, rfl⟩
      have hne := starts_ne (show k < a.length by omega)
      dsimp only
      have hfk := hf (k + 1)
      rw [List.length_range] at hfk
      have hb := bst_len a k
      (repeat infer_instance)
      refine exs (minF_pairM (by simpa [starts] using hne)) ?_
      (repeat infer_instance)
      refine ih _ ⟨k + 1, ?_, ?_, ?_, rfl, ?_⟩
      rotate_left 3
      have e := bstAt_succ a k
      unfold starts at e
      rw [bst_succ, List.map_append, e]
      rfl
    · rintro s hs δ ⟨y4, rfl⟩ ys ih2
      refine ⟨_, rfl, ?_⟩
      try simp only [startD, wipeD, restoreD, keepS, twnSet, List.map_nil, List.nil_append, List.length_nil, Nat.sub_zero, List.replicate_succ, List.replicate_zero, List.set_cons_zero, List.set_cons_succ, List.getElem?_cons_zero, List.getElem?_cons_succ]
      have hfk := hf s
      rw [List.length_range] at hfk
      have hbl := bstAt_len (a := a) (s := s) (by omega)
      (repeat infer_instance)
      rw [Int.toNat_natCast, Int.toNat_natCast]
      cases hm : mirB ((a.take (k + 1)).drop s) with
      | false =>
        (repeat infer_instance)
        have er : (List.range (s + 1)).filter (fun s => mirB ((a.take (k + 1)).drop s)) = (List.range s).filter (fun s => mirB ((a.take (k + 1)).drop s)) := by
          rw [List.range_succ, List.filter_append]
          simp [hm]
        rw [er] at ih2
        exact ih2 _ ⟨_, rfl⟩
      | true =>
        (repeat infer_instance)
        refine exs (bst_at (by omega)) ?_
        (repeat infer_instance)
        refine exs (bst_at (by omega)) ?_
        (repeat infer_instance)
        have er : (List.range (s + 1)).filter (fun s => mirB ((a.take (k + 1)).drop s)) = (List.range s).filter (fun s => mirB ((a.take (k + 1)).drop s)) ++ [s] := by
          rw [List.range_succ, List.filter_append]
          simp [hm]
        have ep : PyData.tuple [.int (((bstAt a s).map S).length : Int), .list ((bstAt a s).map S ++ [S ((a.take (k + 1)).drop s)])] = pairM (bstAt a s ++ [(a.take (k + 1)).drop s]) := by
          simp [pairM]
        rw [er, List.map_append, List.map_append] at ih2
        rw [Int.toNat_natCast, Int.toNat_natCast, ep]
        exact ih2 _ ⟨_, rfl⟩
set_option hygiene false in
local macro_rules | `(tactic| infer_instance) => `(tactic| with_reducible refine c_best_mirrors (by ac_rfl) ?_)
theorem b_best_mirrors {P : Program} {w : World} {K : PySem.W.Frag} {mg : Str → Option Value} {base : Heap} {cx : Exc} {f : Addr} (T : Txt K mg cx) (c_same_back : Fn P w K mg base "same_back" ["word"] 1 (T_same_back cx)) (cdv : Value) (A : Around) (outer : List Env) (s : Shared) (H : Hp) (E : XK) (hr : Room 1 (A.deeper (PyProof.Rows.envOfC "best_mirrors" (defScope s_best_mirrors) s.heap.objs.size f cdv))) :
    DSs (cxOf (L2N.CX P w) P w K mg base N_best_mirrors "best_mirrors" (defScope s_best_mirrors) f cdv A outer s H E) (fun cls d _ H' => E cls d H') (defBody s_best_mirrors) (w_best_mirrors cx) := by
  have tk : L2N.Takes (cxOf (L2N.CX P w) P w K mg base N_best_mirrors "best_mirrors" (defScope s_best_mirrors) f cdv A outer s H E) (fun cls d _ H' => E cls d H') := L2N.takes_of rfl rfl rfl rfl
  exact (dss_cons (ds_setN (i := 1) sc_best_mirrors.nd rfl (Or.inl rfl) (dn_lst (da_cons (de_lst da_nil) da_nil)))
    (dss_cons (ds_for (passes_of rfl) rfl (di_range2 T.n_range (da_cons de_int (da_cons (de_add (de_len T.n_len (da_cons (de_var 0 (pv 0)) da_nil)) de_int) da_nil))) (pg_name (i := 2) sc_best_mirrors.nd rfl (Or.inl rfl)) (tgt1 2) (dss_cons (ds_setN (i := 3) sc_best_mirrors.nd rfl (Or.inl rfl) (dn_lst da_nil))
    (dss_cons (ds_for (passes_of rfl) rfl (di_range1 T.n_range (da_cons (de_var 2 (pv 2)) da_nil)) (pg_name (i := 4) sc_best_mirrors.nd rfl (Or.inl rfl)) (tgt1 4) (dss_one (ds_if (dt_val (de_call c_same_back tk (hr.mono (by decide)) (da_cons (de_slice (de_var 0 (pv 0)) (do_some (de_var 4 (pv 4))) (do_some (de_var 2 (pv 2)))) da_nil))) (dss_one (st_append (i := 3) (de_tup (da_cons (de_len T.n_len (da_cons (de_ixv (pv 1) (de_var 4 (pv 4))) da_nil)) (da_cons (de_add (de_ixv (pv 1) (de_var 4 (pv 4))) (de_lst (da_cons (de_slice (de_var 0 (pv 0)) (do_some (de_var 4 (pv 4))) (do_some (de_var 2 (pv 2)))) da_nil))) da_nil))) (pv 3))) dss_nil)))
    (dss_one (st_append (i := 1) (de_ix (de_min rfl hr T.n_min (da_cons (de_var 3 (pv 3)) da_nil)) de_int) (pv 1))))))
    (dss_one (ds_ret (de_ixv (pv 1) (de_neg de_int))))))
theorem ok_best_mirrors {P : Program} {w : World} {K : PySem.W.Frag} {mg : Str → Option Value} {base : Heap} {cx : Exc} {f : Addr} {fd : FuncData} (F : Fun K "best_mirrors" "best_mirrors" s_best_mirrors f fd) (T : Txt K mg cx) (gf : mg "best_mirrors" = some (.ref f)) (bf : Binds K fd ["word"] []) (c_same_back : Fn P w K mg base "same_back" ["word"] 1 (T_same_back cx)) : Fn P w K mg base "best_mirrors" ["word"] 2 (T_best_mirrors cx) :=
  ⟨⟨f, fd, okD F sc_best_mirrors (b_best_mirrors T c_same_back) (by decide) (h_best_mirrors cx), gf, F.kp, bf⟩, m_best_mirrors cx⟩

/-! ### mirroring -/
abbrev N_mirroring : List Str := ["word"]
theorem sc_mirroring : FnScope N_mirroring ["word"] (defScope s_mirroring) := ⟨rfl, rfl, rfl, by decide +kernel, rfl, by decide +kernel, by decide +kernel⟩
def w_mirroring (cx : Exc) : WS :=
    (wSeq (wDrop (wCall (T_check_full cx) (wCons (wVar 0) wNil)))
    (wRet (wCall (T_best_mirrors cx) (wCons (wVar 0) wNil))))
abbrev T_mirroring (cx : Exc) : PT := TF (.ref cx.InvalidWord) (.ref cx.Empty) fun a => wsL (bestL a)
theorem m_mirroring (cx : Exc) : MonoP (T_mirroring cx) := TF_mono
theorem h_mirroring (cx : Exc) : ∀ ds Q E, T_mirroring cx ds Q E → ds.length = 1 ∧ w_mirroring cx (startD 1 ds) (fnEnds Q E) := by
  rintro ds Q E ⟨d, rfl, hd, h1, h0, h2⟩
  refine ⟨rfl, ?_⟩
  unfold w_mirroring
  (repeat infer_instance)
  refine ⟨d, rfl, hd, fun wd hne => ?_, fun z => h0 z, fun wd => h1 wd⟩
  obtain ⟨a, rfl, wa⟩ := isWord_str wd
  have la := wordB_len wa
  have ha : a ≠ [] := fun z => hne (by rw [z])
  have hp : 0 < a.length := List.length_pos_iff.mpr ha
  have hq := h2 a rfl wa ha
  dsimp only at hq
  clear h0 h1 h2
  (repeat infer_instance)
  exact hq
theorem b_mirroring {P : Program} {w : World} {K : PySem.W.Frag} {mg : Str → Option Value} {base : Heap} {cx : Exc} {f : Addr} (T : Txt K mg cx) (c_check_full : Fn P w K mg base "check_full" ["word"] 3 (T_check_full cx)) (c_best_mirrors : Fn P w K mg base "best_mirrors" ["word"] 2 (T_best_mirrors cx)) (cdv : Value) (A : Around) (outer : List Env) (s : Shared) (H : Hp) (E : XK) (hr : Room 3 (A.deeper (PyProof.Rows.envOfC "mirroring" (defScope s_mirroring) s.heap.objs.size f cdv))) :
    DSs (cxOf (L2N.CX P w) P w K mg base N_mirroring "mirroring" (defScope s_mirroring) f cdv A outer s H E) (fun cls d _ H' => E cls d H') (defBody s_mirroring) (w_mirroring cx) := by
  have tk : L2N.Takes (cxOf (L2N.CX P w) P w K mg base N_mirroring "mirroring" (defScope s_mirroring) f cdv A outer s H E) (fun cls d _ H' => E cls d H') := L2N.takes_of rfl rfl rfl rfl
  exact (dss_cons (ds_expr (de_call c_check_full tk (hr.mono (by decide)) (da_cons (de_var 0 (pv 0)) da_nil)))
    (dss_one (ds_ret (de_call c_best_mirrors tk (hr.mono (by decide)) (da_cons (de_var 0 (pv 0)) da_nil)))))
theorem ok_mirroring {P : Program} {w : World} {K : PySem.W.Frag} {mg : Str → Option Value} {base : Heap} {cx : Exc} {f : Addr} {fd : FuncData} (F : Fun K "mirroring" "mirroring" s_mirroring f fd) (T : Txt K mg cx) (gf : mg "mirroring" = some (.ref f)) (bf : Binds K fd ["word"] []) (c_check_full : Fn P w K mg base "check_full" ["word"] 3 (T_check_full cx)) (c_best_mirrors : Fn P w K mg base "best_mirrors" ["word"] 2 (T_best_mirrors cx)) : Fn P w K mg base "mirroring" ["word"] 4 (T_mirroring cx) :=
  ⟨⟨f, fd, okD F sc_mirroring (b_mirroring T c_check_full c_best_mirrors) (by decide) (h_mirroring cx), gf, F.kp, bf⟩, m_mirroring cx⟩

/-! ### has_period -/
abbrev N_has_period : List Str := ["word", "p"]
theorem sc_has_period : FnScope N_has_period ["word", "p"] (defScope s_has_period) := ⟨rfl, rfl, rfl, by decide +kernel, rfl, by decide +kernel, by decide +kernel⟩
def w_has_period (cx : Exc) : WS :=
    (wRet (wOp eqD (wSl (wVar 0) (wOS (wVar 1)) wON) (wSl (wVar 0) wON (wOS (wOp subD (wCallF lenD (wCons (wVar 0) wNil)) (wVar 1))))))
def T_has_period (_ : Exc) : PT := fun ds Q _ => ∃ (a : List Nat) (p : Int), ds = [S a, .int p] ∧ 0 ≤ p ∧ p ≤ a.length ∧ a.length ≤ 1000 ∧ Q (.bool (perB a p.toNat))
theorem m_has_period (cx : Exc) : MonoP (T_has_period cx) := fun _ _ _ _ _ hq _ ⟨a, p, h1, h2, h3, h4, h5⟩ => ⟨a, p, h1, h2, h3, h4, hq _ h5⟩
theorem c_has_period {cx : Exc} {a : List Nat} {p : Int} {Q : PyData → Prop} {E : Value → Prop} (h0 : 0 ≤ p) (h1 : p ≤ a.length) (h2 : a.length ≤ 1000) (h : Q (.bool (perB a p.toNat))) : T_has_period cx [S a, .int p] Q E := ⟨a, p, rfl, h0, h1, h2, h⟩
theorem h_has_period (cx : Exc) : ∀ ds Q E, T_has_period cx ds Q E → ds.length = 2 ∧ w_has_period cx (startD 2 ds) (fnEnds Q E) := by
  rintro ds Q E ⟨a, p, rfl, h0, h1, h2, hq⟩
  refine ⟨rfl, ?_⟩
  unfold w_has_period
  (repeat infer_instance)
  show Q _
  rw [show ((a.length : Int) - p).toNat = a.length - p.toNat by omega]
  exact hq
set_option hygiene false in
local macro_rules | `(tactic| infer_instance) => `(tactic| with_reducible refine c_has_period (by ac_rfl) (by ac_rfl) (by ac_rfl) ?_)
theorem b_has_period {P : Program} {w : World} {K : PySem.W.Frag} {mg : Str → Option Value} {base : Heap} {cx : Exc} {f : Addr} (T : Txt K mg cx)  (cdv : Value) (A : Around) (outer : List Env) (s : Shared) (H : Hp) (E : XK) (hr : Room 0 (A.deeper (PyProof.Rows.envOfC "has_period" (defScope s_has_period) s.heap.objs.size f cdv))) :
    DSs (cxOf (L2N.CX P w) P w K mg base N_has_period "has_period" (defScope s_has_period) f cdv A outer s H E) (fun cls d _ H' => E cls d H') (defBody s_has_period) (w_has_period cx) := by
  have tk : L2N.Takes (cxOf (L2N.CX P w) P w K mg base N_has_period "has_period" (defScope s_has_period) f cdv A outer s H E) (fun cls d _ H' => E cls d H') := L2N.takes_of rfl rfl rfl rfl
  exact (dss_one (ds_ret (de_eq hr (de_slice (de_var 0 (pv 0)) (do_some (de_var 1 (pv 1))) do_none) (de_slice (de_var 0 (pv 0)) do_none (do_some (de_sub (de_len T.n_len (da_cons (de_var 0 (pv 0)) da_nil)) (de_var 1 (pv 1))))))))
theorem ok_has_period {P : Program} {w : World} {K : PySem.W.Frag} {mg : Str → Option Value} {base : Heap} {cx : Exc} {f : Addr} {fd : FuncData} (F : Fun K "has_period" "has_period" s_has_period f fd) (T : Txt K mg cx) (gf : mg "has_period" = some (.ref f)) (bf : Binds K fd ["word", "p"] [])  : Fn P w K mg base "has_period" ["word", "p"] 1 (T_has_period cx) :=
  ⟨⟨f, fd, okD F sc_has_period (b_has_period T ) (by decide) (h_has_period cx), gf, F.kp, bf⟩, m_has_period cx⟩

/-! ### period_list -/
abbrev N_period_list : List Str := ["word", "p"]
theorem sc_period_list : FnScope N_period_list ["word"] (defScope s_period_list) := ⟨rfl, rfl, rfl, by decide +kernel, rfl, by decide +kernel, by decide +kernel⟩
def w_period_list (cx : Exc) : WS :=
    (wRet (wFz (wLc (wRng2 (wCons (wC (.int 1)) (wCons (wOp addD (wCallF lenD (wCons (wVar 0) wNil)) (wC (.int 1))) wNil))) (set1 1) [1] (wB (wCall (T_has_period cx) (wCons (wVar 0) (wCons (wVar 1) wNil)))) (wVar 1))))
def T_period_list (_ : Exc) : PT := fun ds Q _ => ∃ (a : List Nat), ds = [S a] ∧ a.length ≤ 1000 ∧ Q (.list (nats (periodsL a)))
theorem m_period_list (cx : Exc) : MonoP (T_period_list cx) := fun _ _ _ _ _ hq _ ⟨a, h1, h2, h3⟩ => ⟨a, h1, h2, hq _ h3⟩
theorem c_period_list {cx : Exc} {a : List Nat} {Q : PyData → Prop} {E : Value → Prop} (h2 : a.length ≤ 1000) (h : Q (.list (nats (periodsL a)))) : T_period_list cx [S a] Q E := ⟨a, rfl, h2, h⟩
theorem h_period_list (cx : Exc) : ∀ ds Q E, T_period_list cx ds Q E → ds.length = 1 ∧ w_period_list cx (startD 2 ds) (fnEnds Q E) := by
  rintro ds Q E ⟨a, rfl, h2, hq⟩
  refine ⟨rfl, ?_⟩
  unfold w_period_list
  (repeat infer_instance)
  rw [rng_of 1 (a.length + 1) (by rfl) (by omega)]
  refine lcF (perB a) (fun k => .int k) (by ac_rfl) (fun x hx => ⟨_, rfl, rfl, fun P hP => ?_, fun hp P hP => ?_⟩) ?_
  · have := List.mem_range'_1.mp hx
    (repeat infer_instance)
    exact hP
  · (repeat infer_instance)
    exact hP
  · (repeat infer_instance)
    exact hq
set_option hygiene false in
local macro_rules | `(tactic| infer_instance) => `(tactic| with_reducible refine c_period_list (by ac_rfl) ?_)
theorem b_period_list {P : Program} {w : World} {K : PySem.W.Frag} {mg : Str → Option Value} {base : Heap} {cx : Exc} {f : Addr} (T : Txt K mg cx) (c_has_period : Fn P w K mg base "has_period" ["word", "p"] 1 (T_has_period cx)) (cdv : Value) (A : Around) (outer : List Env) (s : Shared) (H : Hp) (E : XK) (hr : Room 1 (A.deeper (PyProof.Rows.envOfC "period_list" (defScope s_period_list) s.heap.objs.size f cdv))) :
    DSs (cxOf (L2N.CX P w) P w K mg base N_period_list "period_list" (defScope s_period_list) f cdv A outer s H E) (fun cls d _ H' => E cls d H') (defBody s_period_list) (w_period_list cx) := by
  have tk : L2N.Takes (cxOf (L2N.CX P w) P w K mg base N_period_list "period_list" (defScope s_period_list) f cdv A outer s H E) (fun cls d _ H' => E cls d H') := L2N.takes_of rfl rfl rfl rfl
  exact (dss_one (ds_ret (de_new (dn_lc1 (own := [("p", 1)]) rfl sc_period_list.nd (di_range2 T.n_range (da_cons de_int (da_cons (de_add (de_len T.n_len (da_cons (de_var 0 (pv 0)) da_nil)) de_int) da_nil))) (blkOk_by (own := [("p", 1)]) (N := N_period_list) (sc := defScope s_period_list) (by decide +kernel)) (fun _ _ _ _ _ => (pg_name (i := 1) sc_period_list.nd rfl (by first | exact Or.inl rfl | exact Or.inr rfl))) (tgt1 1) (fun _ _ _ _ _ => (dt_val (de_call c_has_period takes0 (hr.mono (by decide)) (da_cons (de_var 0 (pv 0)) (da_cons (de_var 1 (pv 1)) da_nil))))) (fun _ _ _ _ _ => (de_var 1 (pv 1)))))))
theorem ok_period_list {P : Program} {w : World} {K : PySem.W.Frag} {mg : Str → Option Value} {base : Heap} {cx : Exc} {f : Addr} {fd : FuncData} (F : Fun K "period_list" "period_list" s_period_list f fd) (T : Txt K mg cx) (gf : mg "period_list" = some (.ref f)) (bf : Binds K fd ["word"] []) (c_has_period : Fn P w K mg base "has_period" ["word", "p"] 1 (T_has_period cx)) : Fn P w K mg base "period_list" ["word"] 2 (T_period_list cx) :=
  ⟨⟨f, fd, okD F sc_period_list (b_period_list T c_has_period) (by decide) (h_period_list cx), gf, F.kp, bf⟩, m_period_list cx⟩

/-! ### periods -/
abbrev N_periods : List Str := ["word"]
theorem sc_periods : FnScope N_periods ["word"] (defScope s_periods) := ⟨rfl, rfl, rfl, by decide +kernel, rfl, by decide +kernel, by decide +kernel⟩
def w_periods (cx : Exc) : WS :=
    (wSeq (wDrop (wCall (T_check_full cx) (wCons (wVar 0) wNil)))
    (wRet (wCall (T_period_list cx) (wCons (wVar 0) wNil))))
abbrev T_periods (cx : Exc) : PT := TF (.ref cx.InvalidWord) (.ref cx.Empty) fun a => .list (nats (periodsL a))
theorem m_periods (cx : Exc) : MonoP (T_periods cx) := TF_mono
theorem h_periods (cx : Exc) : ∀ ds Q E, T_periods cx ds Q E → ds.length = 1 ∧ w_periods cx (startD 1 ds) (fnEnds Q E) := by
  rintro ds Q E ⟨d, rfl, hd, h1, h0, h2⟩
  refine ⟨rfl, ?_⟩
  unfold w_periods
  (repeat infer_instance)
  refine ⟨d, rfl, hd, fun wd hne => ?_, fun z => h0 z, fun wd => h1 wd⟩
  obtain ⟨a, rfl, wa⟩ := isWord_str wd
  have la := wordB_len wa
  have ha : a ≠ [] := fun z => hne (by rw [z])
  have hp : 0 < a.length := List.length_pos_iff.mpr ha
  have hq := h2 a rfl wa ha
  dsimp only at hq
  clear h0 h1 h2
  (repeat infer_instance)
  exact hq
theorem b_periods {P : Program} {w : World} {K : PySem.W.Frag} {mg : Str → Option Value} {base : Heap} {cx : Exc} {f : Addr} (T : Txt K mg cx) (c_check_full : Fn P w K mg base "check_full" ["word"] 3 (T_check_full cx)) (c_period_list : Fn P w K mg base "period_list" ["word"] 2 (T_period_list cx)) (cdv : Value) (A : Around) (outer : List Env) (s : Shared) (H : Hp) (E : XK) (hr : Room 3 (A.deeper (PyProof.Rows.envOfC "periods" (defScope s_periods) s.heap.objs.size f cdv))) :
    DSs (cxOf (L2N.CX P w) P w K mg base N_periods "periods" (defScope s_periods) f cdv A outer s H E) (fun cls d _ H' => E cls d H') (defBody s_periods) (w_periods cx) := by
  have tk : L2N.Takes (cxOf (L2N.CX P w) P w K mg base N_periods "periods" (defScope s_periods) f cdv A outer s H E) (fun cls d _ H' => E cls d H') := L2N.takes_of rfl rfl rfl rfl
  exact (dss_cons (ds_expr (de_call c_check_full tk (hr.mono (by decide)) (da_cons (de_var 0 (pv 0)) da_nil)))
    (dss_one (ds_ret (de_call c_period_list tk (hr.mono (by decide)) (da_cons (de_var 0 (pv 0)) da_nil)))))
theorem ok_periods {P : Program} {w : World} {K : PySem.W.Frag} {mg : Str → Option Value} {base : Heap} {cx : Exc} {f : Addr} {fd : FuncData} (F : Fun K "periods" "periods" s_periods f fd) (T : Txt K mg cx) (gf : mg "periods" = some (.ref f)) (bf : Binds K fd ["word"] []) (c_check_full : Fn P w K mg base "check_full" ["word"] 3 (T_check_full cx)) (c_period_list : Fn P w K mg base "period_list" ["word"] 2 (T_period_list cx)) : Fn P w K mg base "periods" ["word"] 4 (T_periods cx) :=
  ⟨⟨f, fd, okD F sc_periods (b_periods T c_check_full c_period_list) (by decide) (h_periods cx), gf, F.kp, bf⟩, m_periods cx⟩

/-! ### borders -/
abbrev N_borders : List Str := ["word", "size"]
theorem sc_borders : FnScope N_borders ["word"] (defScope s_borders) := ⟨rfl, rfl, rfl, by decide +kernel, rfl, by decide +kernel, by decide +kernel⟩
def w_borders (cx : Exc) : WS :=
    (wSeq (wDrop (wCall (T_check_word cx) (wCons (wVar 0) wNil)))
    (wRet (wFz (wLc (wRng2 (wCons (wC (.int 1)) (wCons (wCallF lenD (wCons (wVar 0) wNil)) wNil))) (set1 1) [1] (wB (wOp eqD (wSl (wVar 0) wON (wOS (wVar 1))) (wSl (wVar 0) (wOS (wOp subD (wCallF lenD (wCons (wVar 0) wNil)) (wVar 1))) wON))) (wSl (wVar 0) wON (wOS (wVar 1)))))))
abbrev T_borders (cx : Exc) : PT := TW (.ref cx.InvalidWord) fun a => .list ((bordersL a).map S)
theorem m_borders (cx : Exc) : MonoP (T_borders cx) := TW_mono
theorem h_borders (cx : Exc) : ∀ ds Q E, T_borders cx ds Q E → ds.length = 1 ∧ w_borders cx (startD 2 ds) (fnEnds Q E) := by
  rintro ds Q E ⟨d, rfl, hd, h1, h2⟩
  refine ⟨rfl, ?_⟩
  unfold w_borders
  (repeat infer_instance)
  refine ⟨d, rfl, hd, fun wd => ?_, fun wd => h1 wd⟩
  obtain ⟨a, rfl, wa⟩ := isWord_str wd
  have la := wordB_len wa
  have hq := h2 a rfl wa
  dsimp only at hq
  clear h1 h2
  (repeat infer_instance)
  rw [rng_of 1 a.length (by rfl) (by omega)]
  refine lcF (bordB a) (fun k => S (a.take k)) (by ac_rfl) (fun x hx => ⟨_, rfl, rfl, fun P hP => ?_, fun hp P hP => ?_⟩) ?_
  · have := List.mem_range'_1.mp hx
    (repeat infer_instance)
    rw [show ((a.length : Int) - (x : Int)).toNat = a.length - x by omega]
    exact hP
  · (repeat infer_instance)
    exact hP
  · (repeat infer_instance)
    unfold bordersL at hq
    rw [List.map_map] at hq
    exact hq
theorem b_borders {P : Program} {w : World} {K : PySem.W.Frag} {mg : Str → Option Value} {base : Heap} {cx : Exc} {f : Addr} (T : Txt K mg cx) (c_check_word : Fn P w K mg base "check_word" ["word"] 2 (T_check_word cx)) (cdv : Value) (A : Around) (outer : List Env) (s : Shared) (H : Hp) (E : XK) (hr : Room 2 (A.deeper (PyProof.Rows.envOfC "borders" (defScope s_borders) s.heap.objs.size f cdv))) :
    DSs (cxOf (L2N.CX P w) P w K mg base N_borders "borders" (defScope s_borders) f cdv A outer s H E) (fun cls d _ H' => E cls d H') (defBody s_borders) (w_borders cx) := by
  have tk : L2N.Takes (cxOf (L2N.CX P w) P w K mg base N_borders "borders" (defScope s_borders) f cdv A outer s H E) (fun cls d _ H' => E cls d H') := L2N.takes_of rfl rfl rfl rfl
  exact (dss_cons (ds_expr (de_call c_check_word tk (hr.mono (by decide)) (da_cons (de_var 0 (pv 0)) da_nil)))
    (dss_one (ds_ret (de_new (dn_lc1 (own := [("size", 1)]) rfl sc_borders.nd (di_range2 T.n_range (da_cons de_int (da_cons (de_len T.n_len (da_cons (de_var 0 (pv 0)) da_nil)) da_nil))) (blkOk_by (own := [("size", 1)]) (N := N_borders) (sc := defScope s_borders) (by decide +kernel)) (fun _ _ _ _ _ => (pg_name (i := 1) sc_borders.nd rfl (by first | exact Or.inl rfl | exact Or.inr rfl))) (tgt1 1) (fun _ _ _ _ _ => (dt_eq hr (de_slice (de_var 0 (pv 0)) do_none (do_some (de_var 1 (pv 1)))) (de_slice (de_var 0 (pv 0)) (do_some (de_sub (de_len T.n_len (da_cons (de_var 0 (pv 0)) da_nil)) (de_var 1 (pv 1)))) do_none))) (fun _ _ _ _ _ => (de_slice (de_var 0 (pv 0)) do_none (do_some (de_var 1 (pv 1))))))))))
theorem ok_borders {P : Program} {w : World} {K : PySem.W.Frag} {mg : Str → Option Value} {base : Heap} {cx : Exc} {f : Addr} {fd : FuncData} (F : Fun K "borders" "borders" s_borders f fd) (T : Txt K mg cx) (gf : mg "borders" = some (.ref f)) (bf : Binds K fd ["word"] []) (c_check_word : Fn P w K mg base "check_word" ["word"] 2 (T_check_word cx)) : Fn P w K mg base "borders" ["word"] 3 (T_borders cx) :=
  ⟨⟨f, fd, okD F sc_borders (b_borders T c_check_word) (by decide) (h_borders cx), gf, F.kp, bf⟩, m_borders cx⟩

/-! ### square_list -/
abbrev N_square_list : List Str := ["word", "found", "start", "half"]
theorem sc_square_list : FnScope N_square_list ["word"] (defScope s_square_list) := ⟨rfl, rfl, rfl, by decide +kernel, rfl, by decide +kernel, by decide +kernel⟩
def w_square_list (cx : Exc) : WS :=
    (wSeq (wSetN 1 (wLstN wNil))
    (wSeq (wFor (wRng1 (wCons (wCallF lenD (wCons (wVar 0) wNil)) wNil)) (set1 2) (wFor (wRng2 (wCons (wC (.int 1)) (wCons (wOp addD (wOp fdivD (wOp subD (wCallF lenD (wCons (wVar 0) wNil)) (wVar 2)) (wC (.int 2))) (wC (.int 1))) wNil))) (set1 3) (wIfS (wB (wOp eqD (wSl (wVar 0) (wOS (wVar 2)) (wOS (wOp addD (wVar 2) (wVar 3)))) (wSl (wVar 0) (wOS (wOp addD (wVar 2) (wVar 3))) (wOS (wOp addD (wVar 2) (wOp mulD (wC (.int 2)) (wVar 3))))))) (wApp 1 (wTup (wCons (wVar 2) (wCons (wOp addD (wVar 2) (wOp mulD (wC (.int 2)) (wVar 3))) wNil)))) wNext)))
    (wRet (wVar 1))))
def T_square_list (_ : Exc) : PT := fun ds Q _ => ∃ (a : List Nat), ds = [S a] ∧ a.length ≤ 100 ∧ Q (.list ((sqL a).map pairE))
theorem m_square_list (cx : Exc) : MonoP (T_square_list cx) := fun _ _ _ _ _ hq _ ⟨a, h1, h2, h3⟩ => ⟨a, h1, h2, hq _ h3⟩
theorem c_square_list {cx : Exc} {a : List Nat} {Q : PyData → Prop} {E : Value → Prop} (h2 : a.length ≤ 100) (h : Q (.list ((sqL a).map pairE))) : T_square_list cx [S a] Q E := ⟨a, rfl, h2, h⟩
theorem h_square_list (cx : Exc) : ∀ ds Q E, T_square_list cx ds Q E → ds.length = 1 ∧ w_square_list cx (startD 4 ds) (fnEnds Q E) := by
  rintro ds Q E ⟨a, rfl, h2, hq⟩
  refine ⟨rfl, ?_⟩
  unfold w_square_list
  (repeat infer_instance)
  try simp only [startD, wipeD, restoreD, keepS, twnSet, List.map_nil, List.nil_append, List.length_nil, Nat.sub_zero, List.replicate_succ, List.replicate_zero, List.set_cons_zero, List.set_cons_succ, List.getElem?_cons_zero, List.getElem?_cons_succ]
  rw [rng_nat]
  have hfl : ∀ j, ((List.range j).flatMap (sqAt a)).length ≤ j * a.length := fun j => by
    have := flat_len (f := sqAt a) (m := a.length) (sqAt_len a) (List.range j)
    rwa [List.length_range] at this
  refine for_range0 (fun j δ => ∃ y2 y3, δ = [.d (S a), .own (.lst (((List.range j).flatMap (sqAt a)).map pairE)), y2, y3]) _ _ ⟨_, _, rfl⟩ ?_ ?_
  · rintro δ ⟨y2, y3, rfl⟩
    dsimp only
    (repeat infer_instance)
    exact hq
  · rintro j hj δ ⟨y2, y3, rfl⟩ xs ih
    have hj2 : j * a.length ≤ 100 * 100 := Nat.mul_le_mul (by omega) h2
    have hfj := hfl j
    refine ⟨_, rfl, ?_⟩
    try simp only [startD, wipeD, restoreD, keepS, twnSet, List.map_nil, List.nil_append, List.length_nil, Nat.sub_zero, List.replicate_succ, List.replicate_zero, List.set_cons_zero, List.set_cons_succ, List.getElem?_cons_zero, List.getElem?_cons_succ]
    (repeat infer_instance)
    rw [rng_of 1 ((a.length - j) / 2 + 1) (by rfl) (by omega), show (a.length - j) / 2 + 1 - 1 = (a.length - j) / 2 by omega]
    refine for_range (fun i δ => ∃ m y3, i = m + 1 ∧ δ = [.d (S a), .own (.lst (((List.range j).flatMap (sqAt a) ++ ((List.range' 1 m).filter (sqB a j)).map fun h => (j, j + 2 * h)).map pairE)), .d (.int (j : Int)), y3]) _ _ _ ⟨0, y3, rfl, by simp⟩ ?_ ?_
    · rintro δ ⟨m, y3, hm, rfl⟩
      have : m = (a.length - j) / 2 := by omega
      subst this
      refine ih _ ⟨.d (.int (j : Int)), y3, ?_⟩
      rw [List.range_succ, List.flatMap_append]
      simp [sqAt]
    · rintro i hi1 hi2 δ ⟨m, y3, rfl, rfl⟩ ys ih2
      have hfm := List.length_filter_le (sqB a j) (List.range' 1 m)
      rw [List.length_range'] at hfm
      refine ⟨_, rfl, ?_⟩
      try simp only [startD, wipeD, restoreD, keepS, twnSet, List.map_nil, List.nil_append, List.length_nil, Nat.sub_zero, List.replicate_succ, List.replicate_zero, List.set_cons_zero, List.set_cons_succ, List.getElem?_cons_zero, List.getElem?_cons_succ]
      (repeat infer_instance)
      have e1 : ((j : Int) + ((m + 1 : Nat) : Int)).toNat = j + (m + 1) := by omega
      have e2 : ((j : Int) + 2 * ((m + 1 : Nat) : Int)).toNat = j + 2 * (m + 1) := by omega
      rw [e1, e2, Int.toNat_natCast]
      have ec : (List.range' 1 (m + 1)).filter (sqB a j) = (List.range' 1 m).filter (sqB a j) ++ (if sqB a j (m + 1) = true then [m + 1] else []) := by
        rw [List.range'_concat, List.filter_append, show 1 + 1 * m = m + 1 by omega]
        simp [List.filter_cons]
      refine iteD (fun h => ?_) (fun h => ?_)
      · have hb : sqB a j (m + 1) = true := decide_eq_true h
        rw [if_pos hb] at ec
        (repeat infer_instance)
        refine ih2 _ ⟨m + 1, .d (.int ((m + 1 : Nat) : Int)), rfl, ?_⟩
        rw [ec]
        simp [pairE]
      · have hb : ¬ sqB a j (m + 1) = true := fun z => h (of_decide_eq_true z)
        rw [if_neg hb, List.append_nil] at ec
        (repeat infer_instance)
        refine ih2 _ ⟨m + 1, .d (.int ((m + 1 : Nat) : Int)), rfl, ?_⟩
        rw [ec]
set_option hygiene false in
local macro_rules | `(tactic| infer_instance) => `(tactic| with_reducible refine c_square_list (by ac_rfl) ?_)
theorem b_square_list {P : Program} {w : World} {K : PySem.W.Frag} {mg : Str → Option Value} {base : Heap} {cx : Exc} {f : Addr} (T : Txt K mg cx)  (cdv : Value) (A : Around) (outer : List Env) (s : Shared) (H : Hp) (E : XK) (hr : Room 0 (A.deeper (PyProof.Rows.envOfC "square_list" (defScope s_square_list) s.heap.objs.size f cdv))) :
    DSs (cxOf (L2N.CX P w) P w K mg base N_square_list "square_list" (defScope s_square_list) f cdv A outer s H E) (fun cls d _ H' => E cls d H') (defBody s_square_list) (w_square_list cx) := by
  have tk : L2N.Takes (cxOf (L2N.CX P w) P w K mg base N_square_list "square_list" (defScope s_square_list) f cdv A outer s H E) (fun cls d _ H' => E cls d H') := L2N.takes_of rfl rfl rfl rfl
  exact (dss_cons (ds_setN (i := 1) sc_square_list.nd rfl (Or.inl rfl) (dn_lst da_nil))
    (dss_cons (ds_for (passes_of rfl) rfl (di_range1 T.n_range (da_cons (de_len T.n_len (da_cons (de_var 0 (pv 0)) da_nil)) da_nil)) (pg_name (i := 2) sc_square_list.nd rfl (Or.inl rfl)) (tgt1 2) (dss_one (ds_for (passes_of rfl) rfl (di_range2 T.n_range (da_cons de_int (da_cons (de_add (de_fdiv (de_sub (de_len T.n_len (da_cons (de_var 0 (pv 0)) da_nil)) (de_var 2 (pv 2))) de_int) de_int) da_nil))) (pg_name (i := 3) sc_square_list.nd rfl (Or.inl rfl)) (tgt1 3) (dss_one (ds_if (dt_eq hr (de_slice (de_var 0 (pv 0)) (do_some (de_var 2 (pv 2))) (do_some (de_add (de_var 2 (pv 2)) (de_var 3 (pv 3))))) (de_slice (de_var 0 (pv 0)) (do_some (de_add (de_var 2 (pv 2)) (de_var 3 (pv 3)))) (do_some (de_add (de_var 2 (pv 2)) (de_mul de_int (de_var 3 (pv 3))))))) (dss_one (st_append (i := 1) (de_tup (da_cons (de_var 2 (pv 2)) (da_cons (de_add (de_var 2 (pv 2)) (de_mul de_int (de_var 3 (pv 3)))) da_nil))) (pv 1))) dss_nil)))))
    (dss_one (ds_ret (de_var 1 (pv 1))))))
theorem ok_square_list {P : Program} {w : World} {K : PySem.W.Frag} {mg : Str → Option Value} {base : Heap} {cx : Exc} {f : Addr} {fd : FuncData} (F : Fun K "square_list" "square_list" s_square_list f fd) (T : Txt K mg cx) (gf : mg "square_list" = some (.ref f)) (bf : Binds K fd ["word"] [])  : Fn P w K mg base "square_list" ["word"] 1 (T_square_list cx) :=
  ⟨⟨f, fd, okD F sc_square_list (b_square_list T ) (by decide) (h_square_list cx), gf, F.kp, bf⟩, m_square_list cx⟩

/-! ### squares -/
abbrev N_squares : List Str := ["word"]
theorem sc_squares : FnScope N_squares ["word"] (defScope s_squares) := ⟨rfl, rfl, rfl, by decide +kernel, rfl, by decide +kernel, by decide +kernel⟩
def w_squares (cx : Exc) : WS :=
    (wSeq (wDrop (wCall (T_check_word cx) (wCons (wVar 0) wNil)))
    (wRet (wCall (T_square_list cx) (wCons (wVar 0) wNil))))
abbrev T_squares (cx : Exc) : PT := TW (.ref cx.InvalidWord) fun a => .list ((sqL a).map pairE)
theorem m_squares (cx : Exc) : MonoP (T_squares cx) := TW_mono
theorem h_squares (cx : Exc) : ∀ ds Q E, T_squares cx ds Q E → ds.length = 1 ∧ w_squares cx (startD 1 ds) (fnEnds Q E) := by
  rintro ds Q E ⟨d, rfl, hd, h1, h2⟩
  refine ⟨rfl, ?_⟩
  unfold w_squares
  (repeat infer_instance)
  refine ⟨d, rfl, hd, fun wd => ?_, fun wd => h1 wd⟩
  obtain ⟨a, rfl, wa⟩ := isWord_str wd
  have la := wordB_len wa
  have hq := h2 a rfl wa
  dsimp only at hq
  clear h1 h2
  (repeat infer_instance)
  exact hq
theorem b_squares {P : Program} {w : World} {K : PySem.W.Frag} {mg : Str → Option Value} {base : Heap} {cx : Exc} {f : Addr} (T : Txt K mg cx) (c_check_word : Fn P w K mg base "check_word" ["word"] 2 (T_check_word cx)) (c_square_list : Fn P w K mg base "square_list" ["word"] 1 (T_square_list cx)) (cdv : Value) (A : Around) (outer : List Env) (s : Shared) (H : Hp) (E : XK) (hr : Room 2 (A.deeper (PyProof.Rows.envOfC "squares" (defScope s_squares) s.heap.objs.size f cdv))) :
    DSs (cxOf (L2N.CX P w) P w K mg base N_squares "squares" (defScope s_squares) f cdv A outer s H E) (fun cls d _ H' => E cls d H') (defBody s_squares) (w_squares cx) := by
  have tk : L2N.Takes (cxOf (L2N.CX P w) P w K mg base N_squares "squares" (defScope s_squares) f cdv A outer s H E) (fun cls d _ H' => E cls d H') := L2N.takes_of rfl rfl rfl rfl
  exact (dss_cons (ds_expr (de_call c_check_word tk (hr.mono (by decide)) (da_cons (de_var 0 (pv 0)) da_nil)))
    (dss_one (ds_ret (de_call c_square_list tk (hr.mono (by decide)) (da_cons (de_var 0 (pv 0)) da_nil)))))
theorem ok_squares {P : Program} {w : World} {K : PySem.W.Frag} {mg : Str → Option Value} {base : Heap} {cx : Exc} {f : Addr} {fd : FuncData} (F : Fun K "squares" "squares" s_squares f fd) (T : Txt K mg cx) (gf : mg "squares" = some (.ref f)) (bf : Binds K fd ["word"] []) (c_check_word : Fn P w K mg base "check_word" ["word"] 2 (T_check_word cx)) (c_square_list : Fn P w K mg base "square_list" ["word"] 1 (T_square_list cx)) : Fn P w K mg base "squares" ["word"] 3 (T_squares cx) :=
  ⟨⟨f, fd, okD F sc_squares (b_squares T c_check_word c_square_list) (by decide) (h_squares cx), gf, F.kp, bf⟩, m_squares cx⟩

/-! ### runs -/
abbrev N_runs : List Str := ["word", "found", "start", "end", "p", "low", "high"]
theorem sc_runs : FnScope N_runs ["word"] (defScope s_runs) := ⟨rfl, rfl, rfl, by decide +kernel, rfl, by decide +kernel, by decide +kernel⟩
def w_runs (cx : Exc) : WS :=
    (wSeq (wDrop (wCall (T_check_word cx) (wCons (wVar 0) wNil)))
    (wSeq (wSetN 1 wDt)
    (wSeq (wFor (wIterL (wCall (T_square_list cx) (wCons (wVar 0) wNil))) (set2 2 3) (wSeq (wSet 4 (wOp fdivD (wOp subD (wVar 3) (wVar 2)) (wC (.int 2))))
    (wSeq (wPar 5 6 (wCons (wVar 2) (wCons (wVar 3) wNil)))
    (wSeq (wWhile (wAnd (wB (wOp gtD (wVar 5) (wC (.int 0)))) (wB (wOp eqD (wIxV 0 (wOp subD (wVar 5) (wC (.int 1)))) (wIxV 0 (wOp addD (wOp subD (wVar 5) (wC (.int 1))) (wVar 4)))))) (wAug 5 subD (wC (.int 1))))
    (wSeq (wWhile (wAnd (wB (wOp ltD (wVar 6) (wCallF lenD (wCons (wVar 0) wNil)))) (wB (wOp eqD (wIxV 0 (wVar 6)) (wIxV 0 (wOp subD (wVar 6) (wVar 4)))))) (wAug 6 (fun x y => match x, y with | .int i, .int j => some (.int (i + j)) | _, _ => none) (wC (.int 1))))
    (wIfS (wB (wOp eqD (wOp ixD (wCall (T_period_list cx) (wCons (wSl (wVar 0) (wOS (wVar 5)) (wOS (wVar 6))) wNil)) (wC (.int 0))) (wVar 4))) (wPutT 1 (wTup (wCons (wVar 5) (wCons (wVar 6) (wCons (wVar 4) wNil))))) wNext))))))
    (wRet (wSortT 1)))))
abbrev T_runs (cx : Exc) : PT := TW (.ref cx.InvalidWord) fun a => .list ((runsL a).map tripE)
theorem m_runs (cx : Exc) : MonoP (T_runs cx) := TW_mono
theorem run_left {a : List Nat} {h : Nat} {D : WEnds} (ha : a.length ≤ 12) {x1 x2 x3 x6 : SD} : ∀ l, l + h ≤ a.length →
    D.nx [.d (S a), x1, x2, x3, .d (.int (h : Int)), .d (.int ((extL a h l : Nat) : Int)), x6] →
    wWh (wAnd (wB (wOp gtD (wVar 5) (wC (.int 0)))) (wB (wOp eqD (wIxV 0 (wOp subD (wVar 5) (wC (.int 1)))) (wIxV 0 (wOp addD (wOp subD (wVar 5) (wC (.int 1))) (wVar 4)))))) (wAug 5 subD (wC (.int 1))) (l + 1) [.d (S a), x1, x2, x3, .d (.int (h : Int)), .d (.int (l : Int)), x6] D
  | 0, _, hq => by
    refine wAnd_val (p := false) (q := false) (fun P hP => ?_) (fun hp => nomatch hp) ?_
    · (repeat infer_instance)
      exact hP
    · exact hq
  | l + 1, hl, hq => by
    refine wAnd_val (p := true) (q := decide (a[l]? = a[l + h]?)) (fun P hP => ?_) (fun _ P hP => ?_) ?_
    · (repeat infer_instance)
      rw [decide_eq_true (by omega)]
      exact hP
    · (repeat infer_instance)
      have e1 : (((l + 1 : Nat) : Int) - 1).toNat = l := by omega
      have e2 : (((l + 1 : Nat) : Int) - 1 + (h : Int)).toNat = l + h := by omega
      rw [e1, e2]
      have e3 : decide ([a.getD l 0] = [a.getD (l + h) 0]) = decide (a[l]? = a[l + h]?) := by
        rw [decide_eq_decide]
        simp only [List.cons.injEq, and_true]
        exact getD_iff (by omega) (by omega)
      rw [e3]
      exact hP
    · unfold extL at hq
      by_cases e : a[l]? = a[l + h]?
      · rw [if_pos e] at hq
        rw [decide_eq_true e]
        refine iteT ⟨_, rfl, _, rfl, ?_⟩
        rw [show ((l + 1 : Nat) : Int) - 1 = (l : Int) by omega]
        exact run_left ha l (by omega) hq
      · rw [if_neg e] at hq
        rw [decide_eq_false e]
        exact hq
theorem run_right {a : List Nat} {h : Nat} {D : WEnds} (ha : a.length ≤ 12) {x1 x2 x3 x5 : SD} : ∀ m e, e + m = a.length → h ≤ e →
    D.nx [.d (S a), x1, x2, x3, .d (.int (h : Int)), x5, .d (.int ((extR a h m e : Nat) : Int))] →
    wWh (wAnd (wB (wOp ltD (wVar 6) (wCallF lenD (wCons (wVar 0) wNil)))) (wB (wOp eqD (wIxV 0 (wVar 6)) (wIxV 0 (wOp subD (wVar 6) (wVar 4)))))) (wAug 6 (fun x y => match x, y with | .int i, .int j => some (.int (i + j)) | _, _ => none) (wC (.int 1))) (m + 1) [.d (S a), x1, x2, x3, .d (.int (h : Int)), x5, .d (.int (e : Int))] D
  | 0, e, he, hh, hq => by
    refine wAnd_val (p := false) (q := false) (fun P hP => ?_) (fun hp => nomatch hp) ?_
    · (repeat infer_instance)
      rw [decide_eq_false (by omega)]
      exact hP
    · exact hq
  | m + 1, e, he, hh, hq => by
    refine wAnd_val (p := true) (q := decide (a[e]? = a[e - h]?)) (fun P hP => ?_) (fun _ P hP => ?_) ?_
    · (repeat infer_instance)
      rw [decide_eq_true (by omega)]
      exact hP
    · (repeat infer_instance)
      have e2 : ((e : Int) - (h : Int)).toNat = e - h := by omega
      rw [Int.toNat_natCast, e2]
      have e3 : decide ([a.getD e 0] = [a.getD (e - h) 0]) = decide (a[e]? = a[e - h]?) := by
        rw [decide_eq_decide]
        simp only [List.cons.injEq, and_true]
        exact getD_iff (by omega) (by omega)
      rw [e3]
      exact hP
    · unfold extR at hq
      by_cases z : a[e]? = a[e - h]?
      · rw [if_pos z] at hq
        rw [decide_eq_true z]
        refine iteT ⟨_, rfl, _, rfl, ?_⟩
        rw [show (e : Int) + 1 = ((e + 1 : Nat) : Int) by omega]
        exact run_right ha m (e + 1) (by omega) (by omega) hq
      · rw [if_neg z] at hq
        rw [decide_eq_false z]
        exact hq
theorem h_runs (cx : Exc) : ∀ ds Q E, T_runs cx ds Q E → ds.length = 1 ∧ w_runs cx (startD 7 ds) (fnEnds Q E) := by
  rintro ds Q E ⟨d, rfl, hd, h1, h2⟩
  refine ⟨rfl, ?_⟩
  unfold w_runs
  (repeat infer_instance)
  refine ⟨d, rfl, hd, fun wd => ?_, fun wd => h1 wd⟩
  obtain ⟨a, rfl, wa⟩ := isWord_str wd
  have la := wordB_len wa
  have hq := h2 a rfl wa
  dsimp only at hq
  clear h1 h2
  (repeat infer_instance)
  show wSeq _ _ _ _
  try simp only [startD, wipeD, restoreD, keepS, twnSet, List.map_nil, List.nil_append, List.length_nil, Nat.sub_zero, List.replicate_succ, List.replicate_zero, List.set_cons_zero, List.set_cons_succ, List.getElem?_cons_zero, List.getElem?_cons_succ]
  (repeat infer_instance)
  have hsl : (sqL a).length ≤ 144 := by
    have := sq_len a
    have : a.length * a.length ≤ 12 * 12 := Nat.mul_le_mul la la
    omega
  refine for_pre (fun done δ => ∃ ks y2 y3 y4 y5 y6, δ = [.d (S a), .own (.dt ks), y2, y3, y4, y5, y6] ∧ ks.map (·.1) = (done.foldl (stepR a) []).map keyT ∧ ks.length ≤ done.length) (sqL a) _ ⟨[], _, _, _, _, _, rfl, rfl, by simp⟩ ?_ ?_
  · rintro δ ⟨ks, y2, y3, y4, y5, y6, rfl, hk, _⟩
    dsimp only
    refine ⟨ks, foundL a, rfl, hk, found_ne, ?_⟩
    rw [sort_found]
    exact hq
  · rintro done ⟨s, e⟩ rest hM δ ⟨ks, y2, y3, y4, y5, y6, rfl, hk, hl⟩ ih
    have hmem : (s, e) ∈ sqL a := by
      rw [hM]
      simp
    have hdl : done.length < 144 := by
      have := congrArg List.length hM
      simp only [List.length_append, List.length_cons] at this
      omega
    obtain ⟨h, h0, rfl, hn, hper⟩ := mem_sq.mp hmem
    have eh : (s + 2 * h - s) / 2 = h := by omega
    refine ⟨_, rfl, ?_⟩
    try simp only [startD, wipeD, restoreD, keepS, twnSet, List.map_nil, List.nil_append, List.length_nil, Nat.sub_zero, List.replicate_succ, List.replicate_zero, List.set_cons_zero, List.set_cons_succ, List.getElem?_cons_zero, List.getElem?_cons_succ]
    (repeat infer_instance)
    have ep : (((s + 2 * h : Nat) : Int) - (s : Int)) / 2 = (h : Int) := by omega
    rw [ep]
    try simp only [startD, wipeD, restoreD, keepS, twnSet, List.map_nil, List.nil_append, List.length_nil, Nat.sub_zero, List.replicate_succ, List.replicate_zero, List.set_cons_zero, List.set_cons_succ, List.getElem?_cons_zero, List.getElem?_cons_succ]
    refine s_while ⟨s + 1, run_left la s (by omega) ?_⟩
    refine s_while ⟨a.length - (s + 2 * h) + 1, run_right la (a.length - (s + 2 * h)) (s + 2 * h) (by omega) (by omega) ?_⟩
    obtain ⟨l1, l2, l3⟩ := extL_is a h s
    obtain ⟨r1, r2, r3, r4⟩ := extR_is a h (a.length - (s + 2 * h)) (s + 2 * h) (by omega)
    have eg : growRun a (s, s + 2 * h) = (extL a h s, extR a h (a.length - (s + 2 * h)) (s + 2 * h), h) := by
      unfold growRun
      simp only [eh]
    have hstep : (done ++ [(s, s + 2 * h)]).foldl (stepR a) [] = stepR a (done.foldl (stepR a) []) (s, s + 2 * h) := by
      rw [List.foldl_append]
      rfl
    generalize extL a h s = l at *
    generalize extR a h (a.length - (s + 2 * h)) (s + 2 * h) = r at *
    dsimp only
    (repeat infer_instance)
    rw [Int.toNat_natCast, Int.toNat_natCast]
    have hne : cutW a l r ≠ [] := fun z => by
      have := cutW_len (i := l) r2
      rw [z] at this
      simp at this
      omega
    have hhd : ixD (.list (nats (periodsL (cutW a l r)))) (.int 0) = some (.int (minP (cutW a l r) : Int)) := by
      unfold minP
      cases hc : periodsL (cutW a l r) with
      | nil =>
        have := minP_is hne
        unfold minP at this
        rw [hc] at this
        simp at this
      | cons x t => exact at0 _ _
    refine exs hhd ?_
    (repeat infer_instance)
    refine iteD (fun hm => ?_) (fun hm => ?_)
    · have hkeep : keepRun a (l, r, h) = true := decide_eq_true (by show minP (cutW a l r) = h; omega)
      refine ⟨⟨ks, rfl⟩, ?_⟩
      (repeat infer_instance)
      refine ⟨tl3 (l, r, h), ks, rfl, rfl, lt_line (by omega), ?_⟩
      refine ih _ ⟨putK ks (keyT (tl3 (l, r, h))) (.bl true), _, _, _, _, _, rfl, ?_, ?_⟩
      · rw [hstep, putT_keys hk]
        unfold stepR
        rw [eg, if_pos hkeep]
      · have := putT_len (ks := ks) (k := keyT (tl3 (l, r, h))) (v := .bl true)
        simp only [List.length_append, List.length_singleton]
        omega
    · have hkeep : ¬ keepRun a (l, r, h) = true := fun z => hm (by
        have := of_decide_eq_true z
        simp only at this
        omega)
      (repeat infer_instance)
      refine ih _ ⟨ks, _, _, _, _, _, rfl, ?_, ?_⟩
      · rw [hstep]
        unfold stepR
        rw [eg, if_neg hkeep]
        exact hk
      · simp only [List.length_append, List.length_singleton]
        omega
theorem b_runs {P : Program} {w : World} {K : PySem.W.Frag} {mg : Str → Option Value} {base : Heap} {cx : Exc} {f : Addr} (T : Txt K mg cx) (c_check_word : Fn P w K mg base "check_word" ["word"] 2 (T_check_word cx)) (c_square_list : Fn P w K mg base "square_list" ["word"] 1 (T_square_list cx)) (c_period_list : Fn P w K mg base "period_list" ["word"] 2 (T_period_list cx)) (cdv : Value) (A : Around) (outer : List Env) (s : Shared) (H : Hp) (E : XK) (hr : Room 2 (A.deeper (PyProof.Rows.envOfC "runs" (defScope s_runs) s.heap.objs.size f cdv))) :
    DSs (cxOf (L2N.CX P w) P w K mg base N_runs "runs" (defScope s_runs) f cdv A outer s H E) (fun cls d _ H' => E cls d H') (defBody s_runs) (w_runs cx) := by
  have tk : L2N.Takes (cxOf (L2N.CX P w) P w K mg base N_runs "runs" (defScope s_runs) f cdv A outer s H E) (fun cls d _ H' => E cls d H') := L2N.takes_of rfl rfl rfl rfl
  exact (dss_cons (ds_expr (de_call c_check_word tk (hr.mono (by decide)) (da_cons (de_var 0 (pv 0)) da_nil)))
    (dss_cons (ds_setN (i := 1) sc_runs.nd rfl (Or.inl rfl) dn_dt)
    (dss_cons (ds_for (passes_of rfl) rfl (di_list (de_call c_square_list tk (hr.mono (by decide)) (da_cons (de_var 0 (pv 0)) da_nil))) (pg_tup rfl (pgs_cons (pg_name (i := 2) sc_runs.nd rfl (Or.inl rfl)) (pgs_cons (pg_name (i := 3) sc_runs.nd rfl (Or.inl rfl)) pgs_nil))) (tgt2 2 3) (dss_cons (ds_set (i := 4) sc_runs.nd rfl (Or.inl rfl) (de_fdiv (de_sub (de_var 3 (pv 3)) (de_var 2 (pv 2))) de_int))
    (dss_cons (st_par rfl sc_runs.nd rfl rfl (by decide) rfl rfl (da_cons (de_var 2 (pv 2)) (da_cons (de_var 3 (pv 3)) da_nil)))
    (dss_cons (ds_while (passes_of rfl) (DW.dt (dw_and (dt_gt (de_var 5 (pv 5)) de_int) (dw_and1 (dt_eq hr (de_ixv (pv 0) (de_sub (de_var 5 (pv 5)) de_int)) (de_ixv (pv 0) (de_add (de_sub (de_var 5 (pv 5)) de_int) (de_var 4 (pv 4)))))))) (dss_one (ds_isub (i := 5) sc_runs.nd rfl (Or.inl rfl) de_int)))
    (dss_cons (ds_while (passes_of rfl) (DW.dt (dw_and (dt_lt (de_var 6 (pv 6)) (de_len T.n_len (da_cons (de_var 0 (pv 0)) da_nil))) (dw_and1 (dt_eq hr (de_ixv (pv 0) (de_var 6 (pv 6))) (de_ixv (pv 0) (de_sub (de_var 6 (pv 6)) (de_var 4 (pv 4)))))))) (dss_one (ds_iadd (i := 6) sc_runs.nd rfl (Or.inl rfl) de_int)))
    (dss_one (ds_if (dt_eq hr (de_ix (de_call c_period_list tk (hr.mono (by decide)) (da_cons (de_slice (de_var 0 (pv 0)) (do_some (de_var 5 (pv 5))) (do_some (de_var 6 (pv 6)))) da_nil)) de_int) (de_var 4 (pv 4))) (dss_one (let k := (de_tup (da_cons (de_var 5 (pv 5)) (da_cons (de_var 6 (pv 6)) (da_cons (de_var 4 (pv 4)) da_nil)))); st_putT (i := 1) (hr.un1) k (pg_sub (pv 1) k.pe (set_dict hr.un1)))) dss_nil)))))))
    (dss_one (ds_ret (de_sortDt rfl hr T.n_sorted (pv 1)))))))
theorem ok_runs {P : Program} {w : World} {K : PySem.W.Frag} {mg : Str → Option Value} {base : Heap} {cx : Exc} {f : Addr} {fd : FuncData} (F : Fun K "runs" "runs" s_runs f fd) (T : Txt K mg cx) (gf : mg "runs" = some (.ref f)) (bf : Binds K fd ["word"] []) (c_check_word : Fn P w K mg base "check_word" ["word"] 2 (T_check_word cx)) (c_square_list : Fn P w K mg base "square_list" ["word"] 1 (T_square_list cx)) (c_period_list : Fn P w K mg base "period_list" ["word"] 2 (T_period_list cx)) : Fn P w K mg base "runs" ["word"] 3 (T_runs cx) :=
  ⟨⟨f, fd, okD F sc_runs (b_runs T c_check_word c_square_list c_period_list) (by decide) (h_runs cx), gf, F.kp, bf⟩, m_runs cx⟩

/-! ### ends_with_square -/
abbrev N_ends_with_square : List Str := ["word", "half"]
theorem sc_ends_with_square : FnScope N_ends_with_square ["word"] (defScope s_ends_with_square) := ⟨rfl, rfl, rfl, by decide +kernel, rfl, by decide +kernel, by decide +kernel⟩
def w_ends_with_square (cx : Exc) : WS :=
    (wRet (wCallF anyF (wCons (wFz (wLc (wRng2 (wCons (wC (.int 1)) (wCons (wOp addD (wOp fdivD (wCallF lenD (wCons (wVar 0) wNil)) (wC (.int 2))) (wC (.int 1))) wNil))) (set1 1) [1] wYes (wCall (T_has_period cx) (wCons (wSl (wVar 0) (wOS (wOp subD (wCallF lenD (wCons (wVar 0) wNil)) (wOp mulD (wC (.int 2)) (wVar 1)))) wON) (wCons (wVar 1) wNil))))) wNil)))
def T_ends_with_square (_ : Exc) : PT := fun ds Q _ => ∃ (a : List Nat), ds = [S a] ∧ a.length ≤ 100 ∧ Q (.bool (endSq a))
theorem m_ends_with_square (cx : Exc) : MonoP (T_ends_with_square cx) := fun _ _ _ _ _ hq _ ⟨a, h1, h2, h3⟩ => ⟨a, h1, h2, hq _ h3⟩
theorem c_ends_with_square {cx : Exc} {a : List Nat} {Q : PyData → Prop} {E : Value → Prop} (h2 : a.length ≤ 100) (h : Q (.bool (endSq a))) : T_ends_with_square cx [S a] Q E := ⟨a, rfl, h2, h⟩
theorem h_ends_with_square (cx : Exc) : ∀ ds Q E, T_ends_with_square cx ds Q E → ds.length = 1 ∧ w_ends_with_square cx (startD 2 ds) (fnEnds Q E) := by
  rintro ds Q E ⟨a, rfl, h2, hq⟩
  refine ⟨rfl, ?_⟩
  unfold w_ends_with_square
  (repeat infer_instance)
  rw [rng_of 1 (a.length / 2 + 1) (by rfl) (by omega), show a.length / 2 + 1 - 1 = a.length / 2 by omega]
  refine lcM (fun h => .bool (perB (a.drop (a.length - 2 * h)) h)) (by ac_rfl) (fun x hx => ⟨_, rfl, rfl, fun P hP => ?_⟩) ?_
  · have := List.mem_range'_1.mp hx
    (repeat infer_instance)
    rw [Int.toNat_natCast, show ((a.length : Int) - 2 * (x : Int)).toNat = a.length - 2 * x by omega]
    exact hP
  (repeat infer_instance)
  have e : (List.range' 1 (a.length / 2)).map (fun h => PyData.bool (perB (a.drop (a.length - 2 * h)) h)) = ((List.range' 1 (a.length / 2)).map fun h => perB (a.drop (a.length - 2 * h)) h).map .bool := by
    rw [List.map_map]
    rfl
  rw [e]
  refine exs (z := .bool (endSq a)) ?_ ?_
  · show (bools _).map _ = _
    rw [bools_map]
    simp only [Option.map_some, List.any_map]
    rfl
  exact hq
set_option hygiene false in
local macro_rules | `(tactic| infer_instance) => `(tactic| with_reducible refine c_ends_with_square (by ac_rfl) ?_)
theorem b_ends_with_square {P : Program} {w : World} {K : PySem.W.Frag} {mg : Str → Option Value} {base : Heap} {cx : Exc} {f : Addr} (T : Txt K mg cx) (c_has_period : Fn P w K mg base "has_period" ["word", "p"] 1 (T_has_period cx)) (cdv : Value) (A : Around) (outer : List Env) (s : Shared) (H : Hp) (E : XK) (hr : Room 1 (A.deeper (PyProof.Rows.envOfC "ends_with_square" (defScope s_ends_with_square) s.heap.objs.size f cdv))) :
    DSs (cxOf (L2N.CX P w) P w K mg base N_ends_with_square "ends_with_square" (defScope s_ends_with_square) f cdv A outer s H E) (fun cls d _ H' => E cls d H') (defBody s_ends_with_square) (w_ends_with_square cx) := by
  have tk : L2N.Takes (cxOf (L2N.CX P w) P w K mg base N_ends_with_square "ends_with_square" (defScope s_ends_with_square) f cdv A outer s H E) (fun cls d _ H' => E cls d H') := L2N.takes_of rfl rfl rfl rfl
  exact (dss_one (ds_ret (de_any rfl T.n_any (da_cons (de_new (dn_lc0 (own := [("half", 1)]) rfl sc_ends_with_square.nd (di_range2 T.n_range (da_cons de_int (da_cons (de_add (de_fdiv (de_len T.n_len (da_cons (de_var 0 (pv 0)) da_nil)) de_int) de_int) da_nil))) (blkOk_by (own := [("half", 1)]) (N := N_ends_with_square) (sc := defScope s_ends_with_square) (by decide +kernel)) (fun _ _ _ _ _ => (pg_name (i := 1) sc_ends_with_square.nd rfl (by first | exact Or.inl rfl | exact Or.inr rfl))) (tgt1 1) (fun _ _ _ _ _ => (de_call c_has_period takes0 (hr.mono (by decide)) (da_cons (de_slice (de_var 0 (pv 0)) (do_some (de_sub (de_len T.n_len (da_cons (de_var 0 (pv 0)) da_nil)) (de_mul de_int (de_var 1 (pv 1))))) do_none) (da_cons (de_var 1 (pv 1)) da_nil)))))) da_nil))))
theorem ok_ends_with_square {P : Program} {w : World} {K : PySem.W.Frag} {mg : Str → Option Value} {base : Heap} {cx : Exc} {f : Addr} {fd : FuncData} (F : Fun K "ends_with_square" "ends_with_square" s_ends_with_square f fd) (T : Txt K mg cx) (gf : mg "ends_with_square" = some (.ref f)) (bf : Binds K fd ["word"] []) (c_has_period : Fn P w K mg base "has_period" ["word", "p"] 1 (T_has_period cx)) : Fn P w K mg base "ends_with_square" ["word"] 2 (T_ends_with_square cx) :=
  ⟨⟨f, fd, okD F sc_ends_with_square (b_ends_with_square T c_has_period) (by decide) (h_ends_with_square cx), gf, F.kp, bf⟩, m_ends_with_square cx⟩

/-! ### free_words -/
abbrev N_free_words : List Str := ["length", "found", "again", "longer", "word", "letter"]
theorem sc_free_words : FnScope N_free_words ["length"] (defScope s_free_words) := ⟨rfl, rfl, rfl, by decide +kernel, rfl, by decide +kernel, by decide +kernel⟩
def w_free_words (cx : Exc) : WS :=
    (wSeq (wIfS (wNot (wB (wCall (T_is_integer cx) (wCons (wVar 0) (wCons (wC (.int 0)) (wCons (wC (.int 12)) wNil)))))) (wRaise (.ref cx.InvalidNumber)) wNext)
    (wSeq (wSetN 1 (wLstN (wCons (wC (.str "")) wNil)))
    (wSeq (wFor (wRng1 (wCons (wVar 0) wNil)) (set1 2) (wSeq (wSetN 3 (wLstN wNil))
    (wSeq (wFor (wIterL (wVar 1)) (set1 4) (wExt 3 (wFz (wLc (wIterS (wC (.str "abc"))) (set1 5) [5] (wNot (wB (wCall (T_ends_with_square cx) (wCons (wOp addD (wVar 4) (wVar 5)) wNil)))) (wOp addD (wVar 4) (wVar 5))))))
    (wSet 1 (wVar 3)))))
    (wRet (wVar 1)))))
def T_free_words (cx : Exc) : PT := fun ds Q E => ∃ d, ds = [d] ∧ (intIn 0 12 d = false → E (.ref cx.InvalidNumber)) ∧ ∀ n : Nat, d = .int n → n ≤ 12 → Q (.list ((freeW n).map S))
theorem m_free_words (cx : Exc) : MonoP (T_free_words cx) := fun _ _ _ _ _ hq he ⟨d, h1, h2, h3⟩ => ⟨d, h1, fun z => he _ (h2 z), fun n e hn => hq _ (h3 n e hn)⟩
theorem c_free_words {cx : Exc} {n : Nat} {Q : PyData → Prop} {E : Value → Prop} (hn : n ≤ 12) (h : Q (.list ((freeW n).map S))) : T_free_words cx [.int n] Q E := ⟨.int n, rfl, (fun z => by
    exfalso
    simp only [intIn, Bool.and_eq_false_iff, decide_eq_false_iff_not] at z
    omega), fun m e _ => by
    have : n = m := by
      injection e with e
      omega
    rw [← this]
    exact h⟩
theorem h_free_words (cx : Exc) : ∀ ds Q E, T_free_words cx ds Q E → ds.length = 1 ∧ w_free_words cx (startD 6 ds) (fnEnds Q E) := by
  rintro ds Q E ⟨d, rfl, h1, h2⟩
  refine ⟨rfl, ?_⟩
  unfold w_free_words
  (repeat infer_instance)
  cases hi : intIn 0 12 d with
  | false =>
    (repeat infer_instance)
    exact h1 hi
  | true =>
    cases d with
    | int i =>
      simp only [intIn, Bool.and_eq_true, decide_eq_true_eq] at hi
      obtain ⟨n, rfl⟩ : ∃ k : Nat, i = k := ⟨i.toNat, by omega⟩
      have hn : n ≤ 12 := by omega
      have hq := h2 n rfl hn
      clear h1 h2
      (repeat infer_instance)
      try simp only [startD, wipeD, restoreD, keepS, twnSet, List.map_nil, List.nil_append, List.length_nil, Nat.sub_zero, List.replicate_succ, List.replicate_zero, List.set_cons_zero, List.set_cons_succ, List.getElem?_cons_zero, List.getElem?_cons_succ]
      rw [rng_nat]
      refine for_range0 (fun j δ => ∃ o y2 y3 y4 y5, (o = SD.own (.lst ((freeW j).map S)) ∨ o = SD.d (.list ((freeW j).map S))) ∧ δ = [.d (.int (n : Int)), o, y2, y3, y4, y5]) _ _ ⟨_, _, _, _, _, .inl rfl, rfl⟩ ?_ ?_
      · rintro δ ⟨o, y2, y3, y4, y5, ho, rfl⟩
        dsimp only
        rcases ho with rfl | rfl
        · (repeat infer_instance)
          exact hq
        · (repeat infer_instance)
          exact hq
      · rintro j hj δ ⟨o, y2, y3, y4, y5, ho, rfl⟩ xs ih
        have hs := freeW_few (show j ≤ 12 by omega)
        refine ⟨_, rfl, ?_⟩
        rcases ho with rfl | rfl
        all_goals
          try simp only [startD, wipeD, restoreD, keepS, twnSet, List.map_nil, List.nil_append, List.length_nil, Nat.sub_zero, List.replicate_succ, List.replicate_zero, List.set_cons_zero, List.set_cons_succ, List.getElem?_cons_zero, List.getElem?_cons_succ]
          (repeat infer_instance)
          refine for_pre (fun done δ => ∃ y4 y5, δ = [.d (.int (n : Int)), .d (.list ((freeW j).map S)), .d (.int (j : Int)), .own (.lst ((done.flatMap fun w => (abc.map fun c => w ++ [c]).filter fun v => !endSq v).map S)), y4, y5]) _ _ ⟨_, _, rfl⟩ ?_ ?_
          · rintro δ ⟨y4, y5, rfl⟩
            exact ih _ ⟨_, _, _, _, _, .inr rfl, rfl⟩
          · rintro done w rest e δ ⟨y4, y5, rfl⟩ ih2
            have hw : w.length = j := (freeW_mem (n := j) (by rw [e]; simp)).1
            have hl : done.length ≤ 264 := by
              rw [e] at hs
              simp at hs
              omega
            refine ⟨_, rfl, ?_⟩
            try simp only [startD, wipeD, restoreD, keepS, twnSet, List.map_nil, List.nil_append, List.length_nil, Nat.sub_zero, List.replicate_succ, List.replicate_zero, List.set_cons_zero, List.set_cons_succ, List.getElem?_cons_zero, List.getElem?_cons_succ]
            (repeat infer_instance)
            rw [chrs_S]
            refine lcF (fun c => !endSq (w ++ [c])) (fun c => S (w ++ [c])) (by simp) (fun c hc => ⟨_, rfl, rfl, fun P hP => ?_, fun hp P hP => ?_⟩) ?_
            · (repeat infer_instance)
              exact hP
            · (repeat infer_instance)
              exact hP
            (repeat infer_instance)
            have hfl : (done.flatMap fun w => (abc.map fun c => w ++ [c]).filter fun v => !endSq v).length ≤ done.length * 3 := flat_len (fun x => by
              have := List.length_filter_le (fun v => !endSq v) (abc.map fun c => x ++ [c])
              simpa using this) done
            refine exExt rfl ?_ ?_
            · rw [List.length_map, List.length_map]
              have := List.length_filter_le (fun c => !endSq (w ++ [c])) [97, 98, 99]
              simp only [List.length_cons, List.length_nil] at this
              omega
            refine ih2 _ ⟨?_, ?_, ?_⟩
            rotate_left 2
            have ef : (abc.filter fun c => !endSq (w ++ [c])).map (fun c => S (w ++ [c])) = ((abc.map fun c => w ++ [c]).filter fun v => !endSq v).map S := by
              rw [List.filter_map, List.map_map]
              rfl
            rw [List.flatMap_append, List.map_append, ef]
            simp only [List.flatMap_cons, List.flatMap_nil, List.append_nil]
            rfl
    | _ => cases hi
theorem b_free_words {P : Program} {w : World} {K : PySem.W.Frag} {mg : Str → Option Value} {base : Heap} {cx : Exc} {f : Addr} (T : Txt K mg cx) (c_is_integer : Fn P w K mg base "is_integer" ["value", "low", "high"] 1 (T_is_integer cx)) (c_ends_with_square : Fn P w K mg base "ends_with_square" ["word"] 2 (T_ends_with_square cx)) (cdv : Value) (A : Around) (outer : List Env) (s : Shared) (H : Hp) (E : XK) (hr : Room 2 (A.deeper (PyProof.Rows.envOfC "free_words" (defScope s_free_words) s.heap.objs.size f cdv))) :
    DSs (cxOf (L2N.CX P w) P w K mg base N_free_words "free_words" (defScope s_free_words) f cdv A outer s H E) (fun cls d _ H' => E cls d H') (defBody s_free_words) (w_free_words cx) := by
  have tk : L2N.Takes (cxOf (L2N.CX P w) P w K mg base N_free_words "free_words" (defScope s_free_words) f cdv A outer s H E) (fun cls d _ H' => E cls d H') := L2N.takes_of rfl rfl rfl rfl
  obtain ⟨t_MOST, g_MOST⟩ := T.g_MOST
  exact (dss_cons (ds_if (dt_not (dt_val (de_call c_is_integer tk (hr.mono (by decide)) (da_cons (de_var 0 (pv 0)) (da_cons de_int (da_cons (de_c (pe_glob (v := .int 12) rfl g_MOST ⟨_, rfl⟩) fun _ => .int _) da_nil)))))) (dss_one (ds_raise_of (L2N.ps_raise rfl tk (L2N.pmk_own PySem.F.excBase_ValueError T.x_InvalidNumber T.g_InvalidNumber T.k_InvalidNumber (raises_own T.b_InvalidNumber T.t_InvalidNumber) rfl)))) dss_nil)
    (dss_cons (ds_setN (i := 1) sc_free_words.nd rfl (Or.inl rfl) (dn_lst (da_cons de_str da_nil)))
    (dss_cons (ds_for (passes_of rfl) rfl (di_range1 T.n_range (da_cons (de_var 0 (pv 0)) da_nil)) (pg_name (i := 2) sc_free_words.nd rfl (Or.inl rfl)) (tgt1 2) (dss_cons (ds_setN (i := 3) sc_free_words.nd rfl (Or.inl rfl) (dn_lst da_nil))
    (dss_cons (ds_for (passes_of rfl) rfl (di_list (de_var 1 (pv 1))) (pg_name (i := 4) sc_free_words.nd rfl (Or.inr rfl)) (tgt1 4) (dss_one (st_extend (i := 3) (de_new (dn_lc1 (own := [("letter", 5)]) rfl sc_free_words.nd (di_str de_str) (blkOk_by (own := [("letter", 5)]) (N := N_free_words) (sc := defScope s_free_words) (by decide +kernel)) (fun _ _ _ _ _ => (pg_name (i := 5) sc_free_words.nd rfl (by first | exact Or.inl rfl | exact Or.inr rfl))) (tgt1 5) (fun _ _ _ _ _ => (dt_not (dt_val (de_call c_ends_with_square takes0 (hr.mono (by decide)) (da_cons (de_add (de_var 4 (pv 4)) (de_var 5 (pv 5))) da_nil))))) (fun _ _ _ _ _ => (de_add (de_var 4 (pv 4)) (de_var 5 (pv 5)))))) (pv 3))))
    (dss_one (ds_set (i := 1) sc_free_words.nd rfl (Or.inl rfl) (de_var 3 (pv 3)))))))
    (dss_one (ds_ret (de_var 1 (pv 1)))))))
theorem ok_free_words {P : Program} {w : World} {K : PySem.W.Frag} {mg : Str → Option Value} {base : Heap} {cx : Exc} {f : Addr} {fd : FuncData} (F : Fun K "free_words" "free_words" s_free_words f fd) (T : Txt K mg cx) (gf : mg "free_words" = some (.ref f)) (bf : Binds K fd ["length"] []) (c_is_integer : Fn P w K mg base "is_integer" ["value", "low", "high"] 1 (T_is_integer cx)) (c_ends_with_square : Fn P w K mg base "ends_with_square" ["word"] 2 (T_ends_with_square cx)) : Fn P w K mg base "free_words" ["length"] 3 (T_free_words cx) :=
  ⟨⟨f, fd, okD F sc_free_words (b_free_words T c_is_integer c_ends_with_square) (by decide) (h_free_words cx), gf, F.kp, bf⟩, m_free_words cx⟩

/-! ### Writer.__init__ -/
theorem sc_Writer___init__ : FnScope ["self"] ["self"] (defScope s_Writer___init__) := ⟨rfl, rfl, rfl, by decide +kernel, rfl, by decide +kernel, by decide +kernel⟩
theorem ok_Writer___init__ {P : Program} {w : World} {K : PySem.W.Frag} {mg : Str → Option Value} {base : Heap} {cx : Exc} {f : Addr} {fd : FuncData} (F : Fun K "__init__" "Writer.__init__" s_Writer___init__ f fd) (T : Txt K mg cx) (M : L2.Mk K cx.Writer f) (bf : Binds K fd ["self"] []) : FnI P w K mg base "Writer" cx.Writer 1 :=
  ⟨f, fd, okI F sc_Writer___init__ T.cW (fun cdv A outer s H E => pss_cons (ps_fld (pv 0) pe_str rfl) (pss_one (ps_fld (pv 0) pe_int rfl))), M, bf, T.g_Writer⟩

/-! ### Writer.write -/
abbrev N_Writer_write : List Str := ["self", "letter", "before"]
theorem sc_Writer_write : FnScope N_Writer_write ["self", "letter"] (defScope s_Writer_write) := ⟨rfl, rfl, rfl, by decide +kernel, rfl, by decide +kernel, by decide +kernel⟩
def w_Writer_write (cx : Exc) : WS :=
    (wSeq (wIfS (wOr (wNot (wB (wUn (fun d => some (.bool (PyData.isStr d))) (wVar 1)))) (wOr (wB (wOp neD (wCallF lenD (wCons (wVar 1) wNil)) (wC (.int 1)))) (wB (wOp notInD (wVar 1) (wC (.str "abcd")))))) (wRaise (.ref cx.InvalidLetter)) wNext)
    (wSeq (wIfS (wB (wOp eqD (wCallF lenD (wCons (wFldL cx.Writer 0) wNil)) (wC (.int 12)))) (wRaise (.ref cx.TooLong)) wNext)
    (wSeq (wSet 2 (wCallF lenD (wCons (wCall (T_mirror_list cx) (wCons (wFldL cx.Writer 0) wNil)) wNil)))
    (wSeq (wPutL cx.Writer 0 (wOp addD (wFldL cx.Writer 0) (wVar 1)))
    (wRet (wOp gtD (wCallF lenD (wCons (wCall (T_mirror_list cx) (wCons (wFldL cx.Writer 0) wNil)) wNil)) (wVar 2)))))))
/-- one letter -/
def isLetD : PyData → Bool
  | .str z => decide (z.cps.toList.length = 1) && z.cps.toList.all letB
  | _ => false
def T_Writer_write (cx : Exc) : PTW := fun w k ds Q E => ∃ d, ds = [d] ∧ fewD d = true ∧ wordB w = true ∧ (isLetD d = false → E (.ref cx.InvalidLetter) w k) ∧
  ∀ c, d = S [c] → letB c = true → (w.length = 12 → E (.ref cx.TooLong) w k) ∧ (w.length < 12 → Q (.bool (newM (w ++ [c]))) (w ++ [c]) k)
theorem m_Writer_write (cx : Exc) : MonoW (T_Writer_write cx) := fun w k ds Q Q' E E' hq he ⟨d, h1, h2, h3, h4, h5⟩ => ⟨d, h1, h2, h3, fun z => he _ _ _ (h4 z), fun c ec lc => ⟨fun z => he _ _ _ ((h5 c ec lc).1 z), fun z => hq _ _ _ ((h5 c ec lc).2 z)⟩⟩
theorem isLet_S (c : Nat) : isLetD (S [c]) = letB c := by simp [isLetD, St]
theorem c_Writer_write {cx : Exc} {w : List Nat} {k c : Nat} {Q : PyData → List Nat → Nat → Prop} {E : Value → List Nat → Nat → Prop} (hl : w.length < 12) (hw : wordB w = true) (hc : letB c = true) (h : Q (.bool (newM (w ++ [c]))) (w ++ [c]) k) : T_Writer_write cx w k [S [c]] Q E :=
  ⟨S [c], rfl, rfl, hw, (fun z => by rw [isLet_S, hc] at z; cases z), fun c' ec _ => ⟨fun z => absurd z (by omega), fun _ => by
    have e := S_inj ec
    injection e with e
    subst e
    exact h⟩⟩
theorem word_snoc {w : List Nat} {c : Nat} (hw : wordB w = true) (hl : w.length < 12) (hc : letB c = true) : wordB (w ++ [c]) = true := wordB_mk (by simp; omega) fun x hx => by
  rcases List.mem_append.mp hx with z | z
  · exact wordB_let hw x z
  · have : x = c := by simpa using z
    rw [this]
    exact hc
theorem let_one {d : PyData} (h : isLetD d = true) : ∃ c, d = S [c] ∧ letB c = true := by
  cases d with
  | str z =>
    simp only [isLetD, Bool.and_eq_true, decide_eq_true_eq] at h
    obtain ⟨h1, h2⟩ := h
    obtain ⟨c, hc⟩ := List.length_eq_one_iff.mp h1
    refine ⟨c, ?_, ?_⟩
    · rw [← hc, S_eta]
    · rw [hc] at h2
      simpa using h2
  | _ => cases h
theorem h_Writer_write (cx : Exc) : ∀ t w k ds Q E, T_Writer_write cx w k ds Q E → ds.length + 1 = 2 ∧ w_Writer_write cx (wrS t cx.Writer w k :: startD 2 ds) (endsW t cx.Writer Q E) := by
  rintro t w k ds Q E ⟨d, rfl, hd, hw, h1, h2⟩
  refine ⟨rfl, ?_⟩
  unfold w_Writer_write
  have hl := wordB_len hw
  cases hi : isLetD d with
  | true =>
    obtain ⟨c, rfl, lc⟩ := let_one hi
    obtain ⟨g1, g2⟩ := h2 c rfl lc
    clear h1 h2
    (repeat infer_instance)
    have ein : infixB [c] [97, 98, 99, 100] = true := by rw [in_letters]; exact lc
    rw [ein]
    (repeat infer_instance)
    refine iteD (fun h12 => ?_) (fun h12 => ?_)
    · (repeat infer_instance)
      exact ⟨w, k, rfl, g1 (by omega)⟩
    (repeat infer_instance)
    try simp only [startD, wipeD, restoreD, keepS, twnSet, List.map_nil, List.nil_append, List.length_nil, Nat.sub_zero, List.replicate_succ, List.replicate_zero, List.set_cons_zero, List.set_cons_succ, List.getElem?_cons_zero, List.getElem?_cons_succ]
    (repeat infer_instance)
    refine ⟨w ++ [c], k, rfl, ?_⟩
    have hms := mir_succ w c
    have e : decide ((((mirL w).map S).length : Int) < (((mirL (w ++ [c])).map S).length : Int)) = newM (w ++ [c]) := by
      rw [List.length_map, List.length_map, hms]
      cases newM (w ++ [c]) with
      | true => exact decide_eq_true (by rw [if_pos rfl]; omega)
      | false => exact decide_eq_false (by rw [if_neg (by decide)]; omega)
    rw [e]
    exact g2 (by omega)
  | false =>
    have hx := h1 hi
    clear h1 h2
    cases d with
    | str z =>
      obtain ⟨l, rfl⟩ : ∃ l, z = St l := ⟨_, (str_eta z).symm⟩
      have hll : l.length ≤ 100000 := by
        have := of_decide_eq_true hd
        rwa [St_len] at this
      (repeat infer_instance)
      refine iteN (fun h => ?_) (fun h => ?_)
      · (repeat infer_instance)
        exact ⟨w, k, rfl, hx⟩
      · obtain ⟨c, rfl⟩ := List.length_eq_one_iff.mp (show l.length = 1 by omega)
        rw [isLet_S] at hi
        have ein : infixB [c] [97, 98, 99, 100] = false := by rw [in_letters]; exact hi
        (repeat infer_instance)
        rw [ein]
        (repeat infer_instance)
        exact ⟨w, k, rfl, hx⟩
    | none =>
      (repeat infer_instance)
      exact ⟨w, k, rfl, hx⟩
    | bool b =>
      (repeat infer_instance)
      exact ⟨w, k, rfl, hx⟩
    | int b =>
      (repeat infer_instance)
      exact ⟨w, k, rfl, hx⟩
    | list b =>
      (repeat infer_instance)
      exact ⟨w, k, rfl, hx⟩
    | tuple b =>
      (repeat infer_instance)
      exact ⟨w, k, rfl, hx⟩
    | dict b =>
      (repeat infer_instance)
      exact ⟨w, k, rfl, hx⟩
set_option hygiene false in
local macro_rules | `(tactic| infer_instance) => `(tactic| with_reducible refine c_Writer_write (by ac_rfl) (by assumption) (by assumption) ?_)
theorem b_Writer_write {P : Program} {w : World} {K : PySem.W.Frag} {mg : Str → Option Value} {base : Heap} {cx : Exc} {f : Addr} (T : Txt K mg cx) (c_mirror_list : Fn P w K mg base "mirror_list" ["word"] 2 (T_mirror_list cx)) (cdv : Value) (A : Around) (outer : List Env) (s : Shared) (H : Hp) (E : XK) (hr : Room 2 (A.deeper (PyProof.Rows.envOfC "Writer.write" (defScope s_Writer_write) s.heap.objs.size f cdv))) :
    DSs (cxOf (L2N.CX P w) P w K mg base N_Writer_write "Writer.write" (defScope s_Writer_write) f cdv A outer s H E) (fun cls d _ H' => E cls d H') (defBody s_Writer_write) (w_Writer_write cx) := by
  have tk : L2N.Takes (cxOf (L2N.CX P w) P w K mg base N_Writer_write "Writer.write" (defScope s_Writer_write) f cdv A outer s H E) (fun cls d _ H' => E cls d H') := L2N.takes_of rfl rfl rfl rfl
  obtain ⟨t_LETTERS, g_LETTERS⟩ := T.g_LETTERS
  obtain ⟨t_MOST, g_MOST⟩ := T.g_MOST
  exact (dss_cons (ds_if (DW.dt (dw_or (dt_not (dt_val (de_isa (T := "str") rfl T.n_isinstance T.n_str (by decide +kernel) (de_var 1 (pv 1))))) (dw_or (dt_ne hr (de_len T.n_len (da_cons (de_var 1 (pv 1)) da_nil)) de_int) (dw_or1 (dt_notIn hr (de_var 1 (pv 1)) (de_c (pe_glob (v := .str "abcd") rfl g_LETTERS ⟨_, rfl⟩) fun _ => .str _)))))) (dss_one (ds_raise_of (L2N.ps_raise rfl tk (L2N.pmk_own PySem.F.excBase_ValueError T.x_InvalidLetter T.g_InvalidLetter T.k_InvalidLetter (raises_own T.b_InvalidLetter T.t_InvalidLetter) rfl)))) dss_nil)
    (dss_cons (ds_if (dt_eq hr (de_len T.n_len (da_cons (de_fldL T.cW (pv 0)) da_nil)) (de_c (pe_glob (v := .int 12) rfl g_MOST ⟨_, rfl⟩) fun _ => .int _)) (dss_one (ds_raise_of (L2N.ps_raise rfl tk (L2N.pmk_own PySem.F.excBase_ValueError T.x_TooLong T.g_TooLong T.k_TooLong (raises_own T.b_TooLong T.t_TooLong) rfl)))) dss_nil)
    (dss_cons (ds_set (i := 2) sc_Writer_write.nd rfl (Or.inl rfl) (de_len T.n_len (da_cons (de_call c_mirror_list tk (hr.mono (by decide)) (da_cons (de_fldL T.cW (pv 0)) da_nil)) da_nil)))
    (dss_cons (ds_putL (i := 0) T.cW (de_add (de_fldL T.cW (pv 0)) (de_var 1 (pv 1))) (pv 0))
    (dss_one (ds_ret (de_gt (de_len T.n_len (da_cons (de_call c_mirror_list tk (hr.mono (by decide)) (da_cons (de_fldL T.cW (pv 0)) da_nil)) da_nil)) (de_var 2 (pv 2)))))))))
theorem ok_Writer_write {P : Program} {w : World} {K : PySem.W.Frag} {mg : Str → Option Value} {base : Heap} {cx : Exc} {f : Addr} {fd : FuncData} (F : Fun K "write" "Writer.write" s_Writer_write f fd) (T : Txt K mg cx) (hM : Meth K cx.Writer "write" f) (bf : Binds K fd ["self", "letter"] []) (c_mirror_list : Fn P w K mg base "mirror_list" ["word"] 2 (T_mirror_list cx)) : FnM P w K mg base cx.Writer "write" ["self", "letter"] 3 (T_Writer_write cx) :=
  ⟨⟨f, fd, okM F sc_Writer_write (b_Writer_write T c_mirror_list) (by decide) (h_Writer_write cx), hM, bf⟩, m_Writer_write cx⟩

/-! ### Writer.word -/
abbrev N_Writer_word : List Str := ["self"]
theorem sc_Writer_word : FnScope N_Writer_word ["self"] (defScope s_Writer_word) := ⟨rfl, rfl, rfl, by decide +kernel, rfl, by decide +kernel, by decide +kernel⟩
def w_Writer_word (cx : Exc) : WS :=
    (wRet (wFldL cx.Writer 0))
def T_Writer_word (_ : Exc) : PTW := fun w k ds Q _ => ds = [] ∧ Q (S w) w k
theorem m_Writer_word (cx : Exc) : MonoW (T_Writer_word cx) := fun w k ds Q Q' E E' hq _ ⟨h1, h2⟩ => ⟨h1, hq _ _ _ h2⟩
theorem c_Writer_word {cx : Exc} {w : List Nat} {k : Nat} {Q : PyData → List Nat → Nat → Prop} {E : Value → List Nat → Nat → Prop} (h : Q (S w) w k) : T_Writer_word cx w k [] Q E := ⟨rfl, h⟩
theorem h_Writer_word (cx : Exc) : ∀ t w k ds Q E, T_Writer_word cx w k ds Q E → ds.length + 1 = 1 ∧ w_Writer_word cx (wrS t cx.Writer w k :: startD 0 ds) (endsW t cx.Writer Q E) := by
  rintro t w k ds Q E ⟨rfl, hq⟩
  refine ⟨rfl, ?_⟩
  unfold w_Writer_word
  (repeat infer_instance)
  exact ⟨w, k, rfl, hq⟩
set_option hygiene false in
local macro_rules | `(tactic| infer_instance) => `(tactic| with_reducible refine c_Writer_word ?_)
theorem b_Writer_word {P : Program} {w : World} {K : PySem.W.Frag} {mg : Str → Option Value} {base : Heap} {cx : Exc} {f : Addr} (T : Txt K mg cx)  (cdv : Value) (A : Around) (outer : List Env) (s : Shared) (H : Hp) (E : XK) (hr : Room 0 (A.deeper (PyProof.Rows.envOfC "Writer.word" (defScope s_Writer_word) s.heap.objs.size f cdv))) :
    DSs (cxOf (L2N.CX P w) P w K mg base N_Writer_word "Writer.word" (defScope s_Writer_word) f cdv A outer s H E) (fun cls d _ H' => E cls d H') (defBody s_Writer_word) (w_Writer_word cx) := by
  have tk : L2N.Takes (cxOf (L2N.CX P w) P w K mg base N_Writer_word "Writer.word" (defScope s_Writer_word) f cdv A outer s H E) (fun cls d _ H' => E cls d H') := L2N.takes_of rfl rfl rfl rfl
  exact (dss_one (ds_ret (de_fldL T.cW (pv 0))))
theorem ok_Writer_word {P : Program} {w : World} {K : PySem.W.Frag} {mg : Str → Option Value} {base : Heap} {cx : Exc} {f : Addr} {fd : FuncData} (F : Fun K "word" "Writer.word" s_Writer_word f fd) (T : Txt K mg cx) (hM : Meth K cx.Writer "word" f) (bf : Binds K fd ["self"] [])  : FnM P w K mg base cx.Writer "word" ["self"] 1 (T_Writer_word cx) :=
  ⟨⟨f, fd, okM F sc_Writer_word (b_Writer_word T ) (by decide) (h_Writer_word cx), hM, bf⟩, m_Writer_word cx⟩

/-! ### Writer.free_letters -/
abbrev N_Writer_free_letters : List Str := ["self", "letter"]
theorem sc_Writer_free_letters : FnScope N_Writer_free_letters ["self"] (defScope s_Writer_free_letters) := ⟨rfl, rfl, rfl, by decide +kernel, rfl, by decide +kernel, by decide +kernel⟩
def w_Writer_free_letters (cx : Exc) : WS :=
    (wSeq (wIfS (wB (wOp eqD (wCallF lenD (wCons (wFldL cx.Writer 0) wNil)) (wC (.int 12)))) (wRet (wFz (wLstN wNil))) wNext)
    (wRet (wFz (wLc (wIterS (wC (.str "abcd"))) (set1 1) [1] (wNot (wB (wCall (T_ends_with_square cx) (wCons (wOp addD (wFldL cx.Writer 0) (wVar 1)) wNil)))) (wVar 1)))))
abbrev abcd4 : List Nat := [97, 98, 99, 100]
def freeLet (w : List Nat) : List Nat := if w.length = 12 then [] else abcd4.filter fun c => !endSq (w ++ [c])
def T_Writer_free_letters (_ : Exc) : PTW := fun w k ds Q _ => ds = [] ∧ wordB w = true ∧ Q (.list (ch (freeLet w))) w k
theorem m_Writer_free_letters (cx : Exc) : MonoW (T_Writer_free_letters cx) := fun w k ds Q Q' E E' hq _ ⟨h1, h2, h3⟩ => ⟨h1, h2, hq _ _ _ h3⟩
theorem c_Writer_free_letters {cx : Exc} {w : List Nat} {k : Nat} {Q : PyData → List Nat → Nat → Prop} {E : Value → List Nat → Nat → Prop} (hw : wordB w = true) (h : Q (.list (ch (freeLet w))) w k) : T_Writer_free_letters cx w k [] Q E := ⟨rfl, hw, h⟩
theorem h_Writer_free_letters (cx : Exc) : ∀ t w k ds Q E, T_Writer_free_letters cx w k ds Q E → ds.length + 1 = 1 ∧ w_Writer_free_letters cx (wrS t cx.Writer w k :: startD 1 ds) (endsW t cx.Writer Q E) := by
  rintro t w k ds Q E ⟨rfl, hw, hq⟩
  refine ⟨rfl, ?_⟩
  unfold w_Writer_free_letters
  have hl := wordB_len hw
  unfold freeLet at hq
  (repeat infer_instance)
  refine iteD (fun h => ?_) (fun h => ?_)
  · rw [if_pos (by omega)] at hq
    (repeat infer_instance)
    exact ⟨w, k, rfl, hq⟩
  · rw [if_neg (by omega)] at hq
    (repeat infer_instance)
    rw [chrs_S]
    refine lcF (fun c => !endSq (w ++ [c])) (fun c => S [c]) (by simp) (fun c hc => ⟨_, rfl, rfl, fun P hP => ?_, fun hp P hP => ?_⟩) ?_
    · (repeat infer_instance)
      exact hP
    · (repeat infer_instance)
      exact hP
    (repeat infer_instance)
    exact ⟨w, k, rfl, hq⟩
set_option hygiene false in
local macro_rules | `(tactic| infer_instance) => `(tactic| with_reducible refine c_Writer_free_letters (by assumption) ?_)
theorem b_Writer_free_letters {P : Program} {w : World} {K : PySem.W.Frag} {mg : Str → Option Value} {base : Heap} {cx : Exc} {f : Addr} (T : Txt K mg cx) (c_ends_with_square : Fn P w K mg base "ends_with_square" ["word"] 2 (T_ends_with_square cx)) (cdv : Value) (A : Around) (outer : List Env) (s : Shared) (H : Hp) (E : XK) (hr : Room 2 (A.deeper (PyProof.Rows.envOfC "Writer.free_letters" (defScope s_Writer_free_letters) s.heap.objs.size f cdv))) :
    DSs (cxOf (L2N.CX P w) P w K mg base N_Writer_free_letters "Writer.free_letters" (defScope s_Writer_free_letters) f cdv A outer s H E) (fun cls d _ H' => E cls d H') (defBody s_Writer_free_letters) (w_Writer_free_letters cx) := by
  have tk : L2N.Takes (cxOf (L2N.CX P w) P w K mg base N_Writer_free_letters "Writer.free_letters" (defScope s_Writer_free_letters) f cdv A outer s H E) (fun cls d _ H' => E cls d H') := L2N.takes_of rfl rfl rfl rfl
  obtain ⟨t_LETTERS, g_LETTERS⟩ := T.g_LETTERS
  obtain ⟨t_MOST, g_MOST⟩ := T.g_MOST
  exact (dss_cons (ds_if (dt_eq hr (de_len T.n_len (da_cons (de_fldL T.cW (pv 0)) da_nil)) (de_c (pe_glob (v := .int 12) rfl g_MOST ⟨_, rfl⟩) fun _ => .int _)) (dss_one (ds_ret (de_lst da_nil))) dss_nil)
    (dss_one (ds_ret (de_new (dn_lc1 (own := [("letter", 1)]) rfl sc_Writer_free_letters.nd (di_str (de_c (pe_glob (v := .str "abcd") rfl g_LETTERS ⟨_, rfl⟩) fun _ => .str _)) (blkOk_by (own := [("letter", 1)]) (N := N_Writer_free_letters) (sc := defScope s_Writer_free_letters) (by decide +kernel)) (fun _ _ _ _ _ => (pg_name (i := 1) sc_Writer_free_letters.nd rfl (by first | exact Or.inl rfl | exact Or.inr rfl))) (tgt1 1) (fun _ _ _ _ _ => (dt_not (dt_val (de_call c_ends_with_square takes0 (hr.mono (by decide)) (da_cons (de_add (de_fldL T.cW (pv 0)) (de_var 1 (pv 1))) da_nil))))) (fun _ _ _ _ _ => (de_var 1 (pv 1))))))))
theorem ok_Writer_free_letters {P : Program} {w : World} {K : PySem.W.Frag} {mg : Str → Option Value} {base : Heap} {cx : Exc} {f : Addr} {fd : FuncData} (F : Fun K "free_letters" "Writer.free_letters" s_Writer_free_letters f fd) (T : Txt K mg cx) (hM : Meth K cx.Writer "free_letters" f) (bf : Binds K fd ["self"] []) (c_ends_with_square : Fn P w K mg base "ends_with_square" ["word"] 2 (T_ends_with_square cx)) : FnM P w K mg base cx.Writer "free_letters" ["self"] 3 (T_Writer_free_letters cx) :=
  ⟨⟨f, fd, okM F sc_Writer_free_letters (b_Writer_free_letters T c_ends_with_square) (by decide) (h_Writer_free_letters cx), hM, bf⟩, m_Writer_free_letters cx⟩

/-! ### Writer.__len__ -/
abbrev N_Writer___len__ : List Str := ["self"]
theorem sc_Writer___len__ : FnScope N_Writer___len__ ["self"] (defScope s_Writer___len__) := ⟨rfl, rfl, rfl, by decide +kernel, rfl, by decide +kernel, by decide +kernel⟩
def w_Writer___len__ (cx : Exc) : WS :=
    (wRet (wCallF lenD (wCons (wFldL cx.Writer 0) wNil)))
def T_Writer___len__ (_ : Exc) : PTW := fun w k ds Q _ => ds = [] ∧ w.length ≤ 1000 ∧ Q (.int w.length) w k
theorem m_Writer___len__ (cx : Exc) : MonoW (T_Writer___len__ cx) := fun w k ds Q Q' E E' hq _ ⟨h1, h2, h3⟩ => ⟨h1, h2, hq _ _ _ h3⟩
theorem c_Writer___len__ {cx : Exc} {w : List Nat} {k : Nat} {Q : PyData → List Nat → Nat → Prop} {E : Value → List Nat → Nat → Prop} (hl : w.length ≤ 1000) (h : Q (.int w.length) w k) : lenT (T_Writer___len__ cx) w k [] Q E := ⟨rfl, rfl, hl, w.length, rfl, by omega, h⟩
theorem h_Writer___len__ (cx : Exc) : ∀ t w k ds Q E, T_Writer___len__ cx w k ds Q E → ds.length + 1 = 1 ∧ w_Writer___len__ cx (wrS t cx.Writer w k :: startD 0 ds) (endsW t cx.Writer Q E) := by
  rintro t w k ds Q E ⟨rfl, hl, hq⟩
  refine ⟨rfl, ?_⟩
  unfold w_Writer___len__
  (repeat infer_instance)
  exact ⟨w, k, rfl, hq⟩
set_option hygiene false in
local macro_rules | `(tactic| infer_instance) => `(tactic| with_reducible refine c_Writer___len__ (by ac_rfl) ?_)
theorem b_Writer___len__ {P : Program} {w : World} {K : PySem.W.Frag} {mg : Str → Option Value} {base : Heap} {cx : Exc} {f : Addr} (T : Txt K mg cx)  (cdv : Value) (A : Around) (outer : List Env) (s : Shared) (H : Hp) (E : XK) (hr : Room 0 (A.deeper (PyProof.Rows.envOfC "Writer.__len__" (defScope s_Writer___len__) s.heap.objs.size f cdv))) :
    DSs (cxOf (L2N.CX P w) P w K mg base N_Writer___len__ "Writer.__len__" (defScope s_Writer___len__) f cdv A outer s H E) (fun cls d _ H' => E cls d H') (defBody s_Writer___len__) (w_Writer___len__ cx) := by
  have tk : L2N.Takes (cxOf (L2N.CX P w) P w K mg base N_Writer___len__ "Writer.__len__" (defScope s_Writer___len__) f cdv A outer s H E) (fun cls d _ H' => E cls d H') := L2N.takes_of rfl rfl rfl rfl
  exact (dss_one (ds_ret (de_len T.n_len (da_cons (de_fldL T.cW (pv 0)) da_nil))))
theorem ok_Writer___len__ {P : Program} {w : World} {K : PySem.W.Frag} {mg : Str → Option Value} {base : Heap} {cx : Exc} {f : Addr} {fd : FuncData} (F : Fun K "__len__" "Writer.__len__" s_Writer___len__ f fd) (T : Txt K mg cx) (hM : Meth K cx.Writer "__len__" f) (bf : Binds K fd ["self"] [])  : FnM P w K mg base cx.Writer "__len__" ["self"] 1 (T_Writer___len__ cx) :=
  ⟨⟨f, fd, okM F sc_Writer___len__ (b_Writer___len__ T ) (by decide) (h_Writer___len__ cx), hM, bf⟩, m_Writer___len__ cx⟩

/-! ### _law_cell_at -/
abbrev N_law_cell_at : List Str := ["script", "k", "spare", "again"]
theorem sc_law_cell_at : FnScope N_law_cell_at ["script", "k"] (defScope s_law_cell_at) := ⟨rfl, rfl, rfl, by decide +kernel, rfl, by decide +kernel, by decide +kernel⟩
def w_law_cell_at (cx : Exc) : WS :=
    (wSeq (wIfS (wB (wOp ltD (wVar 1) (wLenScr 0))) (wRet (wIxScr 0 (wVar 1))) wNext)
    (wSeq (wIfS (wEqNilScr 0) (wRet (wC (.int 0))) wNext)
    (wSeq (wSet 2 (wIxScr 0 (wOp modD (wVar 1) (wLenScr 0))))
    (wSeq (wFor (wRng1 (wCons (wCallF minF (wCons (wOp fdivD (wVar 1) (wLenScr 0)) (wCons (wC (.int 60)) wNil))) wNil)) (set1 3) (wSet 2 (wOp fdivD (wVar 2) (wC (.int 1000003)))))
    (wRet (wOp addD (wOp addD (wOp mulD (wIxScr 0 (wOp modD (wVar 1) (wLenScr 0))) (wC (.int 31))) (wVar 1)) (wOp mulD (wVar 2) (wC (.int 101)))))))))
def T_law_cell_at : PTS := fun ns ds Q => ∃ k : Int, ds = [.int k] ∧ 0 ≤ k ∧ k ≤ 100000 ∧ ns.length ≤ 63 ∧ ∀ z : Int, Q (.int z)
theorem m_law_cell_at : ∀ ns ds Q Q', (∀ d, Q d → Q' d) → T_law_cell_at ns ds Q → T_law_cell_at ns ds Q' := fun _ _ _ _ h ⟨k, a, b, c, d, e⟩ => ⟨k, a, b, c, d, fun z => h _ (e z)⟩
theorem atI_pos {α : Type} {l : List α} {k : Int} (h0 : 0 ≤ k) (h1 : k < l.length) : ∃ z, atI l k = some z := by
  unfold atI ixN
  rw [if_pos h0, if_pos h1]
  exact ⟨l[k.toNat]'(by omega), List.getElem?_eq_getElem (by omega)⟩
theorem h_law_cell_at (cx : Exc) : ∀ ns ds Q, T_law_cell_at ns ds Q → ds.length + 1 = 2 ∧ w_law_cell_at cx (.scr ns :: startD 3 ds) (ends1 Q) := by
  rintro ns ds Q ⟨k, rfl, h0, h1, hn, hq⟩
  refine ⟨rfl, ?_⟩
  refine ⟨ns, rfl, _, rfl, _, rfl, ?_⟩
  refine ite2 (fun c => ?_) (fun c => ?_)
  · obtain ⟨z, hz⟩ := atI_pos h0 (of_decide_eq_true c)
    exact ⟨⟨ns, rfl⟩, ns, k, z, rfl, rfl, hz, hq z⟩
  · have c' : ¬ k < ns.length := fun z => c (decide_eq_true z)
    refine ⟨ns, rfl, ite2 (fun e => hq 0) (fun e => ?_)⟩
    have e' : ns ≠ [] := fun z => e (decide_eq_true z)
    have hp : 0 < ns.length := List.length_pos_iff.mpr e'
    have hm0 : 0 ≤ k % (ns.length : Int) := Int.emod_nonneg _ (by omega)
    have hm1 : k % (ns.length : Int) < ns.length := Int.emod_lt_of_pos _ (by omega)
    have em : modD (.int k) (.int (ns.length : Int)) = some (.int (k % ns.length)) := mod_i (by omega)
    have ed : fdivD (.int k) (.int (ns.length : Int)) = some (.int (k / ns.length)) := fdiv_i ⟨by omega, by omega⟩
    obtain ⟨z, hz⟩ := atI_pos hm0 hm1
    have hd0 : 0 ≤ k / (ns.length : Int) := Int.ediv_nonneg h0 (by omega)
    have hb : ∃ j : Int, minF [.int (k / ns.length), .int 60] = some (.int j) ∧ 0 ≤ j ∧ j ≤ 60 := by
      refine ⟨_, rfl, ?_, ?_⟩
      · split <;> omega
      · split <;> omega
    obtain ⟨j, ej, j0, j1⟩ := hb
    refine ⟨⟨ns, rfl⟩, ns, rfl, _, em, ns, _, z, rfl, rfl, hz, ?_⟩
    refine ⟨ns, rfl, _, ed, _, ej, j, rfl, ⟨by omega, by omega⟩, ?_⟩
    refine for_ind (fun _ δ => ∃ (y : Int) (s : SD), δ = [.scr ns, .d (.int k), .d (.int y), s]) ?_ ?_ _ _ ⟨z, .no, rfl⟩
    · rintro δ ⟨y, s, rfl⟩
      refine ⟨⟨ns, rfl⟩, ns, rfl, _, em, ns, _, z, rfl, rfl, hz, _, mul_r ⟨by decide, by decide⟩, _, rfl, _, mul_r ⟨by decide, by decide⟩, _, rfl, hq _⟩
    · rintro x xs δ ⟨y, s, rfl⟩ ih
      exact ⟨_, rfl, _, fdiv_i ⟨by decide, by decide⟩, ih _ ⟨_, _, rfl⟩⟩
theorem b_law_cell_at {P : Program} {w : World} {K : PySem.W.Frag} {mg : Str → Option Value} {base : Heap} {cx : Exc} {f : Addr} (T : Txt K mg cx)  (cdv : Value) (A : Around) (outer : List Env) (s : Shared) (H : Hp) (E : XK) (hr : Room 0 (A.deeper (PyProof.Rows.envOfC "_law_cell_at" (defScope s_law_cell_at) s.heap.objs.size f cdv))) :
    DSs (cxOf (L2N.CX P w) P w K mg base N_law_cell_at "_law_cell_at" (defScope s_law_cell_at) f cdv A outer s H E) (fun cls d _ H' => E cls d H') (defBody s_law_cell_at) (w_law_cell_at cx) := by
  have tk : L2N.Takes (cxOf (L2N.CX P w) P w K mg base N_law_cell_at "_law_cell_at" (defScope s_law_cell_at) f cdv A outer s H E) (fun cls d _ H' => E cls d H') := L2N.takes_of rfl rfl rfl rfl
  exact (dss_cons (ds_if (dt_lt (de_var 1 (pv 1)) (de_lenScr (pv 0) T.n_len)) (dss_one (ds_ret (de_ixScr (pv 0) (de_var 1 (pv 1))))) dss_nil)
    (dss_cons (ds_if (dt_eqNilScr hr (pv 0)) (dss_one (ds_ret de_int)) dss_nil)
    (dss_cons (ds_set (i := 2) sc_law_cell_at.nd rfl (Or.inl rfl) (de_ixScr (pv 0) (de_mod (de_var 1 (pv 1)) (de_lenScr (pv 0) T.n_len))))
    (dss_cons (ds_for (passes_of rfl) rfl (di_range1 T.n_range (da_cons (de_min rfl hr T.n_min (da_cons (de_fdiv (de_var 1 (pv 1)) (de_lenScr (pv 0) T.n_len)) (da_cons de_int da_nil))) da_nil)) (pg_name (i := 3) sc_law_cell_at.nd rfl (Or.inl rfl)) (tgt1 3) (dss_one (ds_set (i := 2) sc_law_cell_at.nd rfl (Or.inl rfl) (de_fdiv (de_var 2 (pv 2)) de_int))))
    (dss_one (ds_ret (de_add (de_add (de_mul (de_ixScr (pv 0) (de_mod (de_var 1 (pv 1)) (de_lenScr (pv 0) T.n_len))) de_int) (de_var 1 (pv 1))) (de_mul (de_var 2 (pv 2)) de_int))))))))
theorem ok_law_cell_at {P : Program} {w : World} {K : PySem.W.Frag} {mg : Str → Option Value} {base : Heap} {cx : Exc} {f : Addr} {fd : FuncData} (F : Fun K "_law_cell_at" "_law_cell_at" s_law_cell_at f fd) (T : Txt K mg cx) (gf : mg "_law_cell_at" = some (.ref f)) (bf : Binds K fd ["script", "k"] [])  : FnS P w K mg base "_law_cell_at" ["script", "k"] 1 T_law_cell_at :=
  ⟨⟨f, fd, okS F sc_law_cell_at (b_law_cell_at T ) (by decide) (h_law_cell_at cx), gf, F.kp, bf⟩, m_law_cell_at⟩

/-! ### _law_mixed -/
abbrev N_law_mixed : List Str := ["script", "k", "many", "spun"]
theorem sc_law_mixed : FnScope N_law_mixed ["script", "k", "many"] (defScope s_law_mixed) := ⟨rfl, rfl, rfl, by decide +kernel, rfl, by decide +kernel, by decide +kernel⟩
def w_law_mixed (cx : Exc) : WS :=
    (wSeq (wSet 3 (wOp modD (wOp addD (wOp addD (wOp mulD (wCallS 0 T_law_cell_at (wCons (wVar 1) wNil)) (wC (.int 1103515245))) (wOp mulD (wC (.int 7919)) (wVar 1))) (wC (.int 12345))) (wC (.int 2147483647))))
    (wRet (wOp modD (wOp modD (wOp modD (wOp powD (wVar 3) (wC (.int 5))) (wC (.int 2147483647))) (wC (.int 999983))) (wVar 2))))
def T_law_mixed : PTS := fun ns ds Q => ∃ k m : Int, ds = [.int k, .int m] ∧ 0 ≤ k ∧ k ≤ 100000 ∧ 0 < m ∧ ns.length ≤ 63 ∧ ∀ r : Int, 0 ≤ r → r < m → Q (.int r)
theorem m_law_mixed : ∀ ns ds Q Q', (∀ d, Q d → Q' d) → T_law_mixed ns ds Q → T_law_mixed ns ds Q' := fun _ _ _ _ h ⟨k, m, a, b, c, d, e, f⟩ => ⟨k, m, a, b, c, d, e, fun z x y => h _ (f z x y)⟩
theorem h_law_mixed (cx : Exc) : ∀ ns ds Q, T_law_mixed ns ds Q → ds.length + 1 = 3 ∧ w_law_mixed cx (.scr ns :: startD 3 ds) (ends1 Q) := by
  rintro ns ds Q ⟨k, m, rfl, h0, h1, hm, hn, hq⟩
  refine ⟨rfl, ?_⟩
  refine ⟨⟨ns, rfl⟩, ns, rfl, k, rfl, h0, h1, hn, fun z => ?_⟩
  refine ⟨_, mul_r ⟨by decide, by decide⟩, _, mul_l ⟨by decide, by decide⟩, _, rfl, _, rfl, _, mod_i (by decide), ?_⟩
  have a0 : ∀ x : Int, 0 ≤ x % 2147483647 := fun x => Int.emod_nonneg _ (by decide)
  have a1 : ∀ x : Int, x % 2147483647 < 2147483647 := fun x => Int.emod_lt_of_pos _ (by decide)
  refine ⟨_, pow_i ⟨by decide, by decide, ?_⟩, _, mod_i (by decide), _, mod_i (by decide), _, mod_i hm, ?_⟩
  · have := a0 (z * 1103515245 + 7919 * k + 12345)
    have := a1 (z * 1103515245 + 7919 * k + 12345)
    omega
  · exact hq _ (Int.emod_nonneg _ (by omega)) (Int.emod_lt_of_pos _ hm)
theorem b_law_mixed {P : Program} {w : World} {K : PySem.W.Frag} {mg : Str → Option Value} {base : Heap} {cx : Exc} {f : Addr} (T : Txt K mg cx) (c_law_cell_at : FnS P w K mg base "_law_cell_at" ["script", "k"] 1 T_law_cell_at) (cdv : Value) (A : Around) (outer : List Env) (s : Shared) (H : Hp) (E : XK) (hr : Room 1 (A.deeper (PyProof.Rows.envOfC "_law_mixed" (defScope s_law_mixed) s.heap.objs.size f cdv))) :
    DSs (cxOf (L2N.CX P w) P w K mg base N_law_mixed "_law_mixed" (defScope s_law_mixed) f cdv A outer s H E) (fun cls d _ H' => E cls d H') (defBody s_law_mixed) (w_law_mixed cx) := by
  have tk : L2N.Takes (cxOf (L2N.CX P w) P w K mg base N_law_mixed "_law_mixed" (defScope s_law_mixed) f cdv A outer s H E) (fun cls d _ H' => E cls d H') := L2N.takes_of rfl rfl rfl rfl
  exact (dss_cons (ds_set (i := 3) sc_law_mixed.nd rfl (Or.inl rfl) (de_mod (de_add (de_add (de_mul (de_callScr c_law_cell_at tk (hr.mono (by decide)) (pv 0) (da_cons (de_var 1 (pv 1)) da_nil)) de_int) (de_mul de_int (de_var 1 (pv 1)))) de_int) de_int))
    (dss_one (ds_ret (de_mod (de_mod (de_mod (de_pow (de_var 3 (pv 3)) de_int) de_int) de_int) (de_var 2 (pv 2))))))
theorem ok_law_mixed {P : Program} {w : World} {K : PySem.W.Frag} {mg : Str → Option Value} {base : Heap} {cx : Exc} {f : Addr} {fd : FuncData} (F : Fun K "_law_mixed" "_law_mixed" s_law_mixed f fd) (T : Txt K mg cx) (gf : mg "_law_mixed" = some (.ref f)) (bf : Binds K fd ["script", "k", "many"] []) (c_law_cell_at : FnS P w K mg base "_law_cell_at" ["script", "k"] 1 T_law_cell_at) : FnS P w K mg base "_law_mixed" ["script", "k", "many"] 2 T_law_mixed :=
  ⟨⟨f, fd, okS F sc_law_mixed (b_law_mixed T c_law_cell_at) (by decide) (h_law_mixed cx), gf, F.kp, bf⟩, m_law_mixed⟩

/-! ### _law_draw -/
abbrev N_law_draw : List Str := ["script", "town", "many"]
theorem sc_law_draw : FnScope N_law_draw ["script", "town", "many"] (defScope s_law_draw) := ⟨rfl, rfl, rfl, by decide +kernel, rfl, by decide +kernel, by decide +kernel⟩
def w_law_draw (cx : Exc) : WS :=
    (wSeq (wAppT 1 (wC (.int 0)))
    (wRet (wCallS 0 T_law_mixed (wCons (wPeek (wCallF lenD (wCons (wVar 1) wNil))) (wCons (wVar 2) wNil)))))
/-- a draw: one more in the town, a number below many -/
def T_law_draw : PTT := fun ns zs ds Q => ∃ m : Int, ds = [.int m] ∧ 0 < m ∧ zs.length < 100000 ∧ ns.length ≤ 63 ∧ ∀ r : Int, 0 ≤ r → r < m → Q (.int r) (zs ++ [.int 0])
theorem m_law_draw : ∀ ns zs ds Q Q', (∀ d z, Q d z → Q' d z) → T_law_draw ns zs ds Q → T_law_draw ns zs ds Q' := fun _ _ _ _ _ h ⟨m, a, b, c, d, e⟩ => ⟨m, a, b, c, d, fun r x y => h _ _ (e r x y)⟩
theorem h_law_draw (cx : Exc) : ∀ t ns zs ds Q, T_law_draw ns zs ds Q → ds.length + 2 = 3 ∧ w_law_draw cx (.scr ns :: .own (.tw t zs) :: startD 1 ds) (ends2 t Q) := by
  rintro t ns zs ds Q ⟨m, rfl, hm, hz, hn, hq⟩
  refine ⟨rfl, ?_⟩
  refine ⟨⟨_, _, rfl, rfl⟩, _, _, rfl, rfl, lt_line hz, ?_⟩
  refine ⟨⟨ns, rfl⟩, _, rfl, rfl, ns, rfl, _, m, rfl, ?_, ?_, hm, hn, fun r r0 r1 => ⟨_, rfl, hq r r0 r1⟩⟩
  · omega
  · simp only [List.length_append, List.length_singleton]
    omega
theorem b_law_draw {P : Program} {w : World} {K : PySem.W.Frag} {mg : Str → Option Value} {base : Heap} {cx : Exc} {f : Addr} (T : Txt K mg cx) (c_law_mixed : FnS P w K mg base "_law_mixed" ["script", "k", "many"] 2 T_law_mixed) (cdv : Value) (A : Around) (outer : List Env) (s : Shared) (H : Hp) (E : XK) (hr : Room 2 (A.deeper (PyProof.Rows.envOfC "_law_draw" (defScope s_law_draw) s.heap.objs.size f cdv))) :
    DSs (cxOf (L2N.CX P w) P w K mg base N_law_draw "_law_draw" (defScope s_law_draw) f cdv A outer s H E) (fun cls d _ H' => E cls d H') (defBody s_law_draw) (w_law_draw cx) := by
  have tk : L2N.Takes (cxOf (L2N.CX P w) P w K mg base N_law_draw "_law_draw" (defScope s_law_draw) f cdv A outer s H E) (fun cls d _ H' => E cls d H') := L2N.takes_of rfl rfl rfl rfl
  exact (dss_cons (st_appendT (i := 1) de_int (pv 1))
    (dss_one (ds_ret (de_callScr c_law_mixed tk (hr.mono (by decide)) (pv 0) (da_cons (de_peek (de_len T.n_len (da_cons (de_var 1 (pv 1)) da_nil))) (da_cons (de_var 2 (pv 2)) da_nil))))))
theorem ok_law_draw {P : Program} {w : World} {K : PySem.W.Frag} {mg : Str → Option Value} {base : Heap} {cx : Exc} {f : Addr} {fd : FuncData} (F : Fun K "_law_draw" "_law_draw" s_law_draw f fd) (T : Txt K mg cx) (gf : mg "_law_draw" = some (.ref f)) (bf : Binds K fd ["script", "town", "many"] []) (c_law_mixed : FnS P w K mg base "_law_mixed" ["script", "k", "many"] 2 T_law_mixed) : FnT P w K mg base "_law_draw" ["script", "town", "many"] 3 T_law_draw :=
  ⟨⟨f, fd, okT F sc_law_draw (b_law_draw T c_law_mixed) (by decide) (h_law_draw cx), gf, F.kp, bf⟩, m_law_draw⟩

/-! ### _law_pick -/
abbrev N_law_pick : List Str := ["script", "town", "some"]
theorem sc_law_pick : FnScope N_law_pick ["script", "town", "some"] (defScope s_law_pick) := ⟨rfl, rfl, rfl, by decide +kernel, rfl, by decide +kernel, by decide +kernel⟩
def w_law_pick (cx : Exc) : WS :=
    (wRet (wIxV 2 (wCallT 0 1 T_law_draw (wCons (wCallF lenD (wCons (wVar 2) wNil)) wNil))))
/-- one of a list's items -/
def T_law_pick : PTT := fun ns zs ds Q => ∃ xs : List PyData, ds = [.list xs] ∧ 0 < xs.length ∧ zs.length < 100000 ∧ ns.length ≤ 63 ∧ ∀ x, x ∈ xs → Q x (zs ++ [.int 0])
theorem m_law_pick : ∀ ns zs ds Q Q', (∀ d z, Q d z → Q' d z) → T_law_pick ns zs ds Q → T_law_pick ns zs ds Q' := fun _ _ _ _ _ h ⟨m, a, b, c, d, e⟩ => ⟨m, a, b, c, d, fun r x => h _ _ (e r x)⟩
theorem h_law_pick (cx : Exc) : ∀ t ns zs ds Q, T_law_pick ns zs ds Q → ds.length + 2 = 3 ∧ w_law_pick cx (.scr ns :: .own (.tw t zs) :: startD 1 ds) (ends2 t Q) := by
  rintro t ns zs ds Q ⟨xs, rfl, hx, hz, hn, hq⟩
  refine ⟨rfl, ?_⟩
  refine ⟨_, rfl, ⟨ns, rfl⟩, ⟨_, _, rfl, rfl⟩, _, rfl, ns, _, _, rfl, rfl, rfl, _, rfl, by omega, hz, hn, fun r r0 r1 => ⟨rfl, ?_⟩⟩
  obtain ⟨z, e⟩ := atI_pos r0 r1
  have hm : z ∈ xs := by
    obtain ⟨j, _, h2, _⟩ := atI_get e
    exact List.mem_of_getElem? h2
  exact ⟨z, e, _, rfl, hq z hm⟩
theorem b_law_pick {P : Program} {w : World} {K : PySem.W.Frag} {mg : Str → Option Value} {base : Heap} {cx : Exc} {f : Addr} (T : Txt K mg cx) (c_law_draw : FnT P w K mg base "_law_draw" ["script", "town", "many"] 3 T_law_draw) (cdv : Value) (A : Around) (outer : List Env) (s : Shared) (H : Hp) (E : XK) (hr : Room 3 (A.deeper (PyProof.Rows.envOfC "_law_pick" (defScope s_law_pick) s.heap.objs.size f cdv))) :
    DSs (cxOf (L2N.CX P w) P w K mg base N_law_pick "_law_pick" (defScope s_law_pick) f cdv A outer s H E) (fun cls d _ H' => E cls d H') (defBody s_law_pick) (w_law_pick cx) := by
  have tk : L2N.Takes (cxOf (L2N.CX P w) P w K mg base N_law_pick "_law_pick" (defScope s_law_pick) f cdv A outer s H E) (fun cls d _ H' => E cls d H') := L2N.takes_of rfl rfl rfl rfl
  exact (dss_one (ds_ret (de_ixv (pv 2) (de_callTown c_law_draw tk (hr.mono (by decide)) (pv 0) (pv 1) (da_cons (de_len T.n_len (da_cons (de_var 2 (pv 2)) da_nil)) da_nil)))))
theorem ok_law_pick {P : Program} {w : World} {K : PySem.W.Frag} {mg : Str → Option Value} {base : Heap} {cx : Exc} {f : Addr} {fd : FuncData} (F : Fun K "_law_pick" "_law_pick" s_law_pick f fd) (T : Txt K mg cx) (gf : mg "_law_pick" = some (.ref f)) (bf : Binds K fd ["script", "town", "some"] []) (c_law_draw : FnT P w K mg base "_law_draw" ["script", "town", "many"] 3 T_law_draw) : FnT P w K mg base "_law_pick" ["script", "town", "some"] 4 T_law_pick :=
  ⟨⟨f, fd, okT F sc_law_pick (b_law_pick T c_law_draw) (by decide) (h_law_pick cx), gf, F.kp, bf⟩, m_law_pick⟩

/-! ### _law_some_text -/
abbrev N_law_some_text : List Str := ["script", "town", "most", "wide", "many", "made", "again", "kind", "step", "at"]
theorem sc_law_some_text : FnScope N_law_some_text ["script", "town", "most"] (defScope s_law_some_text) := ⟨rfl, rfl, rfl, by decide +kernel, rfl, by decide +kernel, by decide +kernel⟩
def w_law_some_text (cx : Exc) : WS :=
    (wSeq (wSet 3 (wOp addD (wC (.int 1)) (wCallT 0 1 T_law_draw (wCons (wC (.int 4)) wNil))))
    (wSeq (wSet 4 (wCallT 0 1 T_law_draw (wCons (wOp addD (wVar 2) (wC (.int 1))) wNil)))
    (wSeq (wSetN 5 (wLc (wRng1 (wCons (wVar 4) wNil)) (set1 6) [6] wYes (wCallT 0 1 T_law_pick (wCons (wSl (wFz (wLstN (wCons (wC (.str "a")) (wCons (wC (.str "b")) (wCons (wC (.str "c")) (wCons (wC (.str "d")) wNil)))))) wON (wOS (wVar 3))) wNil))))
    (wSeq (wSet 7 (wCallT 0 1 T_law_draw (wCons (wC (.int 4)) wNil)))
    (wSeq (wIfS (wAnd (wB (wOp eqD (wVar 7) (wC (.int 0)))) (wB (wOp gtD (wVar 4) (wC (.int 0))))) (wSeq (wSet 8 (wOp addD (wC (.int 1)) (wCallT 0 1 T_law_draw (wCons (wVar 4) wNil))))
    (wSetN 5 (wLc (wRng1 (wCons (wVar 4) wNil)) (set1 9) [9] wYes (wIxV 5 (wOp modD (wVar 9) (wVar 8)))))) wNext)
    (wSeq (wIfS (wB (wOp eqD (wVar 7) (wC (.int 1)))) (wSetN 5 (wLc (wRng1 (wCons (wVar 4) wNil)) (set1 9) [9] wYes (wIxV 5 (wCallF minF (wCons (wVar 9) (wCons (wOp subD (wOp subD (wVar 4) (wC (.int 1))) (wVar 9)) wNil)))))) wNext)
    (wSeq (wIfS (wAnd (wB (wOp ltD (wVar 7) (wC (.int 2)))) (wAnd (wB (wOp gtD (wVar 4) (wC (.int 0)))) (wB (wOp eqD (wCallT 0 1 T_law_draw (wCons (wC (.int 3)) wNil)) (wC (.int 0)))))) (wPut 5 (wCallT 0 1 T_law_pick (wCons (wSl (wFz (wLstN (wCons (wC (.str "a")) (wCons (wC (.str "b")) (wCons (wC (.str "c")) (wCons (wC (.str "d")) wNil)))))) wON (wOS (wVar 3))) wNil)) (wCallT 0 1 T_law_draw (wCons (wVar 4) wNil))) wNext)
    (wRet (wJoin (wC (.str "")) (wVar 5))))))))))
/-- a word of at most so many letters -/
def T_law_some_text : PTT := fun ns zs ds Q => ∃ m : Nat, ds = [.int m] ∧ m ≤ 12 ∧ zs.length ≤ 50000 ∧ ns.length ≤ 63 ∧ ∀ l zs', l.length ≤ m → (∀ c ∈ l, letB c = true) → zs'.length ≤ zs.length + 100 → Q (S l) zs'
theorem m_law_some_text : ∀ ns zs ds Q Q', (∀ d z, Q d z → Q' d z) → T_law_some_text ns zs ds Q → T_law_some_text ns zs ds Q' := fun _ _ _ _ _ h ⟨m, a, b, c, d, e⟩ => ⟨m, a, b, c, d, fun l z x y w => h _ _ (e l z x y w)⟩
theorem letters_some {r : Int} (h0 : 0 ≤ r) (h1 : r < 4) : ∃ L : List PyData, slD (.list [.str "a", .str "b", .str "c", .str "d"]) none (some (1 + r)) = some (.list L) ∧ 0 < L.length ∧ ∀ x ∈ L, ∃ c, letB c = true ∧ x = S [c] := by
  have all : ∀ x ∈ cutD [.str "a", .str "b", .str "c", .str "d"] none (some (1 + r)), ∃ c, letB c = true ∧ x = S [c] := fun x hx => by
    have hx := List.mem_of_mem_drop (List.mem_of_mem_take hx)
    rw [a_St, b_St, c_St, d_St] at hx
    have hx : x = S [97] ∨ x = S [98] ∨ x = S [99] ∨ x = S [100] := by simpa using hx
    rcases hx with h | h | h | h
    · exact ⟨97, rfl, h⟩
    · exact ⟨98, rfl, h⟩
    · exact ⟨99, rfl, h⟩
    · exact ⟨100, rfl, h⟩
  refine ⟨_, rfl, ?_, all⟩
  have : r = 0 ∨ r = 1 ∨ r = 2 ∨ r = 3 := by omega
  rcases this with rfl | rfl | rfl | rfl <;> decide
/-- the letters that may be picked, written -/
abbrev wLetters : WE := wSl (wFz (wLstN (wCons (wC (.str "a")) (wCons (wC (.str "b")) (wCons (wC (.str "c")) (wCons (wC (.str "d")) wNil)))))) wON (wOS (wVar 3))
theorem pick_letter {ns : List Int} {t : Addr} {zs : List PyData} {r : Int} {x2 : SD} {rest : List SD} {Q : PyData → DS → Prop} {E : XC} (h0 : 0 ≤ r) (h1 : r < 4) (hz : zs.length < 100000) (hn : ns.length ≤ 63)
    (h : ∀ c, letB c = true → Q (S [c]) (.scr ns :: .own (.tw t (zs ++ [.int 0])) :: x2 :: .d (.int (1 + r)) :: rest)) :
    wCallT 0 1 T_law_pick (wCons wLetters wNil) (.scr ns :: .own (.tw t zs) :: x2 :: .d (.int (1 + r)) :: rest) Q E := by
  obtain ⟨L, e, hl, hm⟩ := letters_some h0 h1
  refine ⟨⟨ns, rfl⟩, ⟨_, _, rfl, rfl⟩, by show 4 ≤ sizeLine; decide, _, rfl, _, rfl, _, e, ns, _, _, rfl, rfl, rfl, _, rfl, hl, hz, hn, fun x hx => ?_⟩
  obtain ⟨c, hc, rfl⟩ := hm x hx
  exact h c hc
theorem draw_lit {ns : List Int} {t : Addr} {zs : List PyData} {m : Int} {rest : List SD} {Q : PyData → DS → Prop} {E : XC} {w : WE} (hw : ∀ P : PyData → DS → Prop, P (.int m) (.scr ns :: .own (.tw t zs) :: rest) → w (.scr ns :: .own (.tw t zs) :: rest) P E) (hm : 0 < m) (hz : zs.length < 100000) (hn : ns.length ≤ 63)
    (h : ∀ r, 0 ≤ r → r < m → Q (.int r) (.scr ns :: .own (.tw t (zs ++ [.int 0])) :: rest)) :
    wCallT 0 1 T_law_draw (wCons w wNil) (.scr ns :: .own (.tw t zs) :: rest) Q E := by
  refine ⟨⟨ns, rfl⟩, ⟨_, _, rfl, rfl⟩, hw _ ⟨ns, _, _, rfl, rfl, rfl, m, rfl, hm, hz, hn, fun r r0 r1 => h r r0 r1⟩⟩
theorem eq_int (i j : Int) : eqD (.int i) (.int j) = some (.bool (decide (i = j))) := by
  show some (PyData.bool (PyData.eqv (.int i) (.int j))) = _
  simp only [PyData.eqv]
  congr 2
/-- the last turn and the end -/
theorem st_end {ns : List Int} {t : Addr} {zs : List PyData} {r k : Int} {n : Nat} {l : List Nat} {x2 x6 x8 x9 : SD} {Q : PyData → List PyData → Prop} (hr0 : 0 ≤ r) (hr1 : r < 4) (hz : zs.length ≤ 60000) (hn : ns.length ≤ 63) (hl : l.length = n) (hn2 : n ≤ 12) (hc : ∀ c ∈ l, letB c = true)
    (hq : ∀ l' zs', l'.length = n → (∀ c ∈ l', letB c = true) → zs'.length ≤ zs.length + 10 → Q (S l') zs') :
    wSeq (wIfS (wAnd (wB (wOp ltD (wVar 7) (wC (.int 2)))) (wAnd (wB (wOp gtD (wVar 4) (wC (.int 0)))) (wB (wOp eqD (wCallT 0 1 T_law_draw (wCons (wC (.int 3)) wNil)) (wC (.int 0)))))) (wPut 5 (wCallT 0 1 T_law_pick (wCons wLetters wNil)) (wCallT 0 1 T_law_draw (wCons (wVar 4) wNil))) wNext)
      (wRet (wJoin (wC (.str "")) (wVar 5))) [.scr ns, .own (.tw t zs), x2, .d (.int (1 + r)), .d (.int n), .own (.lst (ch l)), x6, .d (.int k), x8, x9] (ends2 t Q) := by
  have fin : ∀ (l' : List Nat) (zs' : List PyData), l'.length = n → (∀ c ∈ l', letB c = true) → zs'.length ≤ zs.length + 10 → wRet (wJoin (wC (.str "")) (wVar 5)) [.scr ns, .own (.tw t zs'), x2, .d (.int (1 + r)), .d (.int n), .own (.lst (ch l')), x6, .d (.int k), x8, x9] (ends2 t Q) := fun l' zs' h1 h2 h3 =>
    ⟨⟨_, rfl⟩, _, join_chars (by omega), zs', rfl, hq l' zs' h1 h2 h3⟩
  refine s_if ⟨_, rfl, _, rfl, ?_⟩
  by_cases hk : k < 2
  · refine if_true_of' hk ⟨_, rfl, _, rfl, ?_⟩
    by_cases hp : (n : Int) > 0
    · refine if_true_of' hp ?_
      refine u_B (u_op ?_)
      refine draw_lit (m := 3) (fun P h => h) (by decide) (by omega) hn fun q q0 q1 => ⟨_, eq_int _ _, _, rfl, ?_⟩
      by_cases hq0 : q = 0
      · refine if_true_of' hq0 ?_
        refine s_put ?_
        refine pick_letter hr0 hr1 (by simp; omega) hn fun c hc1 => ⟨⟨_, rfl⟩, ?_⟩
        refine draw_lit (m := n) (fun P h => h) hp (by simp; omega) hn fun j j0 j1 => ?_
        have hj : j.toNat < l.length := by omega
        refine ⟨ch l, j, j.toNat, rfl, rfl, ?_, ?_⟩
        · simp only [ixN, List.length_map]
          rw [if_pos j0, if_pos (by omega)]
        · have e : (ch l).set j.toNat (S [c]) = ch (l.set j.toNat c) := by simp [ch, List.map_set]
          show wRet _ [.scr ns, .own (.tw t _), x2, .d (.int (1 + r)), .d (.int n), .own (.lst ((ch l).set j.toNat (S [c]))), x6, .d (.int k), x8, x9] _
          rw [e]
          refine fin _ _ (by simpa using hl) (fun c' hc' => ?_) (by simp)
          rcases List.mem_or_eq_of_mem_set hc' with z | z
          · exact hc c' z
          · rw [z]
            exact hc1
      · exact if_false_of' hq0 (fin l _ hl hc (by simp))
    · exact if_false_of' hp (fin l zs hl hc (by omega))
  · exact if_false_of' hk (fin l zs hl hc (by omega))
/-- made anew: mirrored -/
theorem st_two {ns : List Int} {t : Addr} {zs : List PyData} {r k : Int} {n : Nat} {l : List Nat} {x2 x6 x8 x9 : SD} {D : WEnds} (rest : WS) (hl : l.length = n) (hn2 : n ≤ 12) (hc : ∀ c ∈ l, letB c = true)
    (h : ∀ l' y9, l'.length = n → (∀ c ∈ l', letB c = true) → rest [.scr ns, .own (.tw t zs), x2, .d (.int (1 + r)), .d (.int n), .own (.lst (ch l')), x6, .d (.int k), x8, y9] D) :
    wSeq (wIfS (wB (wOp eqD (wVar 7) (wC (.int 1)))) (wSetN 5 (wLc (wRng1 (wCons (wVar 4) wNil)) (set1 9) [9] wYes (wIxV 5 (wCallF minF (wCons (wVar 9) (wCons (wOp subD (wOp subD (wVar 4) (wC (.int 1))) (wVar 9)) wNil)))))) wNext)
      rest [.scr ns, .own (.tw t zs), x2, .d (.int (1 + r)), .d (.int n), .own (.lst (ch l)), x6, .d (.int k), x8, x9] D := by
  refine s_if ⟨_, eq_int _ _, _, rfl, ?_⟩
  by_cases hk : k = 1
  · refine if_true_of' hk ?_
    refine s_setN ⟨n, rfl, ⟨by omega, by omega⟩, ?_⟩
    refine lc_chars (fun c => letB c = true) _ [] (by simp) (fun x hx => ?_) (by rw [rng_len]; simp; omega) fun l' h1 h2 => h l' _ (by rw [rng_len] at h1; simp at h1; exact h1) h2
    obtain ⟨i, rfl, i0, i1⟩ := rng_mem hx
    refine ⟨_, rfl, fun R hR => ?_⟩
    have hb : 0 ≤ (if (n : Int) - 1 - i < i then (n : Int) - 1 - i else i) ∧ (if (n : Int) - 1 - i < i then (n : Int) - 1 - i else i) < l.length := by
      constructor <;> split <;> omega
    obtain ⟨c, hm, e⟩ := ch_at hb.1 hb.2
    exact ⟨_, rfl, _, rfl, _, rfl, _, rfl, rfl, _, e, hR c _ (hc c hm) rfl⟩
  · exact if_false_of' hk (h l _ hl hc)
/-- made anew: repeated -/
theorem st_one {ns : List Int} {t : Addr} {zs : List PyData} {r k : Int} {n : Nat} {l : List Nat} {x2 x6 x8 x9 : SD} {D : WEnds} (rest : WS) (hz : zs.length ≤ 60000) (hn : ns.length ≤ 63) (hl : l.length = n) (hn2 : n ≤ 12) (hc : ∀ c ∈ l, letB c = true)
    (h : ∀ l' zs' y8 y9, l'.length = n → (∀ c ∈ l', letB c = true) → zs'.length ≤ zs.length + 1 → rest [.scr ns, .own (.tw t zs'), x2, .d (.int (1 + r)), .d (.int n), .own (.lst (ch l')), x6, .d (.int k), y8, y9] D) :
    wSeq (wIfS (wAnd (wB (wOp eqD (wVar 7) (wC (.int 0)))) (wB (wOp gtD (wVar 4) (wC (.int 0))))) (wSeq (wSet 8 (wOp addD (wC (.int 1)) (wCallT 0 1 T_law_draw (wCons (wVar 4) wNil))))
        (wSetN 5 (wLc (wRng1 (wCons (wVar 4) wNil)) (set1 9) [9] wYes (wIxV 5 (wOp modD (wVar 9) (wVar 8)))))) wNext)
      rest [.scr ns, .own (.tw t zs), x2, .d (.int (1 + r)), .d (.int n), .own (.lst (ch l)), x6, .d (.int k), x8, x9] D := by
  refine s_if ⟨_, eq_int _ _, _, rfl, ?_⟩
  by_cases hk : k = 0
  · refine if_true_of' hk ⟨_, rfl, _, rfl, ?_⟩
    by_cases hp : (n : Int) > 0
    · refine if_true_of' hp ?_
      refine s_seq (s_set (u_opC ?_))
      refine draw_lit (m := n) (fun P h => h) hp (by omega) hn fun j j0 j1 => ⟨_, rfl, n, rfl, ⟨by omega, by omega⟩, ?_⟩
      refine lc_chars (fun c => letB c = true) _ [] (by simp) (fun x hx => ?_) (by rw [rng_len]; simp; omega) fun l' h1 h2 => h l' _ _ _ (by rw [rng_len] at h1; simp at h1; exact h1) h2 (by simp)
      obtain ⟨i, rfl, i0, i1⟩ := rng_mem hx
      refine ⟨_, rfl, fun R hR => ?_⟩
      have hb0 : 0 ≤ i % (1 + j) := Int.emod_nonneg _ (by omega)
      have hb1 : i % (1 + j) < 1 + j := Int.emod_lt_of_pos _ (by omega)
      obtain ⟨c, hm, e⟩ := ch_at (l := l) hb0 (by omega)
      exact ⟨_, rfl, _, mod_i (by omega), rfl, _, e, hR c _ (hc c hm) rfl⟩
    · exact if_false_of' hp (h l _ _ _ hl hc (by omega))
  · exact if_false_of' hk (h l _ _ _ hl hc (by omega))
theorem h_law_some_text (cx : Exc) : ∀ t ns zs ds Q, T_law_some_text ns zs ds Q → ds.length + 2 = 3 ∧ w_law_some_text cx (.scr ns :: .own (.tw t zs) :: startD 8 ds) (ends2 t Q) := by
  rintro t ns zs ds Q ⟨m, rfl, hm, hz, hn, hq⟩
  refine ⟨rfl, ?_⟩
  refine s_set (u_opC ?_)
  refine draw_lit (m := 4) (fun P h => h) (by decide) (by omega) hn fun r r0 r1 => ⟨_, rfl, ?_⟩
  refine s_set ?_
  refine draw_lit (m := (m : Int) + 1) (fun P h => ⟨_, rfl, h⟩) (by omega) (by simp; omega) hn fun q q0 q1 => ?_
  obtain ⟨n, rfl⟩ : ∃ n : Nat, q = n := ⟨q.toNat, by omega⟩
  refine s_setN ⟨n, rfl, ⟨by omega, by omega⟩, ?_⟩
  refine lc_ind (fun xs δ acc => ∃ zs' l, δ = [.scr ns, .own (.tw t zs'), .d (.int m), .d (.int (1 + r)), .d (.int n), .no, .no, .no, .no, .no] ∧ acc = ch l ∧ (∀ c ∈ l, letB c = true) ∧ l.length + xs.length = n ∧ zs'.length + xs.length ≤ zs.length + 20) ?_ ?_ _ _ _ ⟨_, [], rfl, rfl, by simp, by rw [rng_len]; simp, by rw [rng_len]; simp; omega⟩
  · rintro δ acc ⟨zs', l, rfl, rfl, hl, h1, h2⟩
    simp only [List.length_nil, Nat.add_zero] at h1 h2
    refine s_set ?_
    refine draw_lit (m := 4) (fun P h => h) (by decide) (by omega) hn fun k k0 k1 => ?_
    refine st_one _ (by simp; omega) hn h1 (by omega) hl fun l2 z2 y8 y9 g1 g2 g3 => ?_
    refine st_two _ g1 (by omega) g2 fun l3 y9 g4 g5 => ?_
    exact st_end r0 r1 (by simp at g3; omega) hn g4 (by omega) g5 fun l4 z4 e1 e2 e3 => hq l4 z4 (by omega) e2 (by simp at g3; omega)
  · rintro x xs δ acc ⟨zs', l, rfl, rfl, hl, h1, h2⟩ ih
    simp only [List.length_cons] at h1 h2
    refine lc_step rfl (pick_letter r0 r1 (by omega) hn fun c hc => ⟨by simp only [List.length_map]; exact lt_line (by omega), ih _ _ ⟨_, l ++ [c], rfl, by simp [ch], fun c' hc' => ?_, by simp; omega, by simp; omega⟩⟩)
    rcases List.mem_append.mp hc' with z | z
    · exact hl c' z
    · have : c' = c := by simpa using z
      rw [this]
      exact hc
theorem b_law_some_text {P : Program} {w : World} {K : PySem.W.Frag} {mg : Str → Option Value} {base : Heap} {cx : Exc} {f : Addr} (T : Txt K mg cx) (c_law_draw : FnT P w K mg base "_law_draw" ["script", "town", "many"] 3 T_law_draw) (c_law_pick : FnT P w K mg base "_law_pick" ["script", "town", "some"] 4 T_law_pick) (cdv : Value) (A : Around) (outer : List Env) (s : Shared) (H : Hp) (E : XK) (hr : Room 4 (A.deeper (PyProof.Rows.envOfC "_law_some_text" (defScope s_law_some_text) s.heap.objs.size f cdv))) :
    DSs (cxOf (L2N.CX P w) P w K mg base N_law_some_text "_law_some_text" (defScope s_law_some_text) f cdv A outer s H E) (fun cls d _ H' => E cls d H') (defBody s_law_some_text) (w_law_some_text cx) := by
  have tk : L2N.Takes (cxOf (L2N.CX P w) P w K mg base N_law_some_text "_law_some_text" (defScope s_law_some_text) f cdv A outer s H E) (fun cls d _ H' => E cls d H') := L2N.takes_of rfl rfl rfl rfl
  exact (dss_cons (ds_set (i := 3) sc_law_some_text.nd rfl (Or.inr rfl) (de_add de_int (de_callTown c_law_draw tk (hr.mono (by decide)) (pv 0) (pv 1) (da_cons de_int da_nil))))
    (dss_cons (ds_set (i := 4) sc_law_some_text.nd rfl (Or.inr rfl) (de_callTown c_law_draw tk (hr.mono (by decide)) (pv 0) (pv 1) (da_cons (de_add (de_var 2 (pv 2)) de_int) da_nil)))
    (dss_cons (ds_setN (i := 5) sc_law_some_text.nd rfl (Or.inr rfl) (dn_lc0 (own := [("again", 6)]) rfl sc_law_some_text.nd (di_range1 T.n_range (da_cons (de_var 4 (pv 4)) da_nil)) (blkOk_by (own := [("again", 6)]) (N := N_law_some_text) (sc := defScope s_law_some_text) (by decide +kernel)) (fun _ _ _ _ _ => (pg_name (i := 6) sc_law_some_text.nd rfl (by first | exact Or.inl rfl | exact Or.inr rfl))) (tgt1 6) (fun _ _ _ _ _ => (de_callTown c_law_pick takes0 (hr.mono (by decide)) (pv 0) (pv 1) (da_cons (de_slice (de_lst (da_cons de_str (da_cons de_str (da_cons de_str (da_cons de_str da_nil))))) do_none (do_some (de_var 3 (pv 3)))) da_nil)))))
    (dss_cons (ds_set (i := 7) sc_law_some_text.nd rfl (Or.inl rfl) (de_callTown c_law_draw tk (hr.mono (by decide)) (pv 0) (pv 1) (da_cons de_int da_nil)))
    (dss_cons (ds_if (DW.dt (dw_and (dt_eq hr (de_var 7 (pv 7)) de_int) (dw_and1 (dt_gt (de_var 4 (pv 4)) de_int)))) (dss_cons (ds_set (i := 8) sc_law_some_text.nd rfl (Or.inr rfl) (de_add de_int (de_callTown c_law_draw tk (hr.mono (by decide)) (pv 0) (pv 1) (da_cons (de_var 4 (pv 4)) da_nil))))
    (dss_one (ds_setN (i := 5) sc_law_some_text.nd rfl (Or.inr rfl) (dn_lc0 (own := [("at", 9)]) rfl sc_law_some_text.nd (di_range1 T.n_range (da_cons (de_var 4 (pv 4)) da_nil)) (blkOk_by (own := [("at", 9)]) (N := N_law_some_text) (sc := defScope s_law_some_text) (by decide +kernel)) (fun _ _ _ _ _ => (pg_name (i := 9) sc_law_some_text.nd rfl (by first | exact Or.inl rfl | exact Or.inr rfl))) (tgt1 9) (fun _ _ _ _ _ => (de_ixv (pv 5) (de_mod (de_var 9 (pv 9)) (de_var 8 (pv 8))))))))) dss_nil)
    (dss_cons (ds_if (dt_eq hr (de_var 7 (pv 7)) de_int) (dss_one (ds_setN (i := 5) sc_law_some_text.nd rfl (Or.inr rfl) (dn_lc0 (own := [("at", 9)]) rfl sc_law_some_text.nd (di_range1 T.n_range (da_cons (de_var 4 (pv 4)) da_nil)) (blkOk_by (own := [("at", 9)]) (N := N_law_some_text) (sc := defScope s_law_some_text) (by decide +kernel)) (fun _ _ _ _ _ => (pg_name (i := 9) sc_law_some_text.nd rfl (by first | exact Or.inl rfl | exact Or.inr rfl))) (tgt1 9) (fun _ _ _ _ _ => (de_ixv (pv 5) (de_min rfl hr T.n_min (da_cons (de_var 9 (pv 9)) (da_cons (de_sub (de_sub (de_var 4 (pv 4)) de_int) (de_var 9 (pv 9))) da_nil)))))))) dss_nil)
    (dss_cons (ds_if (DW.dt (dw_and (dt_lt (de_var 7 (pv 7)) de_int) (dw_and (dt_gt (de_var 4 (pv 4)) de_int) (dw_and1 (dt_eq hr (de_callTown c_law_draw tk (hr.mono (by decide)) (pv 0) (pv 1) (da_cons de_int da_nil)) de_int))))) (dss_one (let v := (de_callTown c_law_pick tk (hr.mono (by decide)) (pv 0) (pv 1) (da_cons (de_slice (de_lst (da_cons de_str (da_cons de_str (da_cons de_str (da_cons de_str da_nil))))) do_none (do_some (de_var 3 (pv 3)))) da_nil)); let k := (de_callTown c_law_draw tk (hr.mono (by decide)) (pv 0) (pv 1) (da_cons (de_var 4 (pv 4)) da_nil)); ds_put v k (ps_asg v.pe (pg_sub (pv 5) k.pe set_list)))) dss_nil)
    (dss_one (ds_ret (de_join de_str (de_var 5 (pv 5))))))))))))
theorem ok_law_some_text {P : Program} {w : World} {K : PySem.W.Frag} {mg : Str → Option Value} {base : Heap} {cx : Exc} {f : Addr} {fd : FuncData} (F : Fun K "_law_some_text" "_law_some_text" s_law_some_text f fd) (T : Txt K mg cx) (gf : mg "_law_some_text" = some (.ref f)) (bf : Binds K fd ["script", "town", "most"] []) (c_law_draw : FnT P w K mg base "_law_draw" ["script", "town", "many"] 3 T_law_draw) (c_law_pick : FnT P w K mg base "_law_pick" ["script", "town", "some"] 4 T_law_pick) : FnT P w K mg base "_law_some_text" ["script", "town", "most"] 5 T_law_some_text :=
  ⟨⟨f, fd, okT F sc_law_some_text (b_law_some_text T c_law_draw c_law_pick) (by decide) (h_law_some_text cx), gf, F.kp, bf⟩, m_law_some_text⟩

/-! ### _law_told -/
abbrev N_law_told : List Str := ["own", "other", "n", "made"]
theorem sc_law_told : FnScope N_law_told ["own", "other", "n"] (defScope s_law_told) := ⟨rfl, rfl, rfl, by decide +kernel, rfl, by decide +kernel, by decide +kernel⟩
def w_law_told (cx : Exc) : WS :=
    (wSeq (wSetN 3 (wLstN (wCons (wCall (T_parts cx) (wCons (wVar 0) wNil)) (wCons (wCall (T_borders cx) (wCons (wVar 0) wNil)) (wCons (wCall (T_periods cx) (wCons (wOp addD (wC (.str "a")) (wVar 0)) wNil)) (wCons (wCall (T_mirrors cx) (wCons (wVar 0) wNil)) (wCons (wCall (T_last_mirrors cx) (wCons (wVar 0) wNil)) (wCons (wCall (T_mirroring cx) (wCons (wOp addD (wC (.str "b")) (wVar 0)) wNil)) wNil))))))))
    (wRet (wOp addD (wVar 3) (wFz (wLstN (wCons (wCall (T_squares cx) (wCons (wVar 0) wNil)) (wCons (wCall (T_runs cx) (wCons (wVar 0) wNil)) (wCons (wCall (T_free_words cx) (wCons (wVar 2) wNil)) (wCons (wFz (wLstN (wCons (wCall (T_overlap cx) (wCons (wVar 0) (wCons (wVar 1) wNil))) wNil))) wNil)))))))))
/-- what is told of two words and a number -/
def toldL (a b : List Nat) (n : Nat) : List (List PyData) := [(partsL a).map S, (bordersL a).map S, nats (periodsL ([97] ++ a)), (mirL a).map S, nats (lastM a), (bestL ([98] ++ a)).map S, (sqL a).map pairE, (runsL a).map tripE, (freeW n).map S, [S (b.take (lap a b))]]
def T_law_told (_ : Exc) : PT := fun ds Q _ => ∃ (a b : List Nat) (n : Nat), ds = [S a, S b, .int (n : Int)] ∧ wordB a = true ∧ wordB b = true ∧ a.length ≤ 11 ∧ n ≤ 12 ∧ Q (.list ((toldL a b n).map PyData.list))
theorem m_law_told (cx : Exc) : MonoP (T_law_told cx) := fun _ _ _ _ _ hq _ ⟨a, b, n, h1, h2, h3, h4, h5, h6⟩ => ⟨a, b, n, h1, h2, h3, h4, h5, hq _ h6⟩
theorem c_law_told {cx : Exc} {a b : List Nat} {n : Nat} {Q : PyData → Prop} {E : Value → Prop} (wa : wordB a = true) (wb : wordB b = true) (ha : a.length ≤ 11) (hn : n ≤ 12) (h : Q (.list ((toldL a b n).map PyData.list))) : T_law_told cx [S a, S b, .int (n : Int)] Q E := ⟨a, b, n, rfl, wa, wb, ha, hn, h⟩
theorem word_cons {a : List Nat} {c : Nat} (h : wordB a = true) (hl : a.length ≤ 11) (hc : letB c = true) : wordB ([c] ++ a) = true := wordB_mk (by simp; omega) fun x hx => by
  rcases List.mem_append.mp hx with z | z
  · rw [List.mem_singleton.mp z]
    exact hc
  · exact wordB_let h x z
theorem h_law_told (cx : Exc) : ∀ ds Q E, T_law_told cx ds Q E → ds.length = 3 ∧ w_law_told cx (startD 4 ds) (fnEnds Q E) := by
  rintro ds Q E ⟨a, b, n, rfl, wa, wb, ha, hn, hq⟩
  refine ⟨rfl, ?_⟩
  unfold w_law_told
  have w1 := word_cons (c := 97) wa ha rfl
  have w2 := word_cons (c := 98) wa ha rfl
  have n1 : [97] ++ a ≠ [] := by simp
  have n2 : [98] ++ a ≠ [] := by simp
  (repeat infer_instance)
  try simp only [startD, wipeD, restoreD, keepS, twnSet, List.map_nil, List.nil_append, List.length_nil, Nat.sub_zero, List.replicate_succ, List.replicate_zero, List.set_cons_zero, List.set_cons_succ, List.getElem?_cons_zero, List.getElem?_cons_succ]
  (repeat infer_instance)
  refine c_free_words hn ?_
  (repeat infer_instance)
  refine ⟨S a, S b, rfl, few_word wa, few_word wb, fun z => (z.elim (fun z => absurd z (word_ne wa)) fun z => absurd z (word_ne wb)), fun a' b' ea eb _ _ => ?_⟩
  rw [← S_inj ea, ← S_inj eb]
  (repeat infer_instance)
  exact hq
theorem b_law_told {P : Program} {w : World} {K : PySem.W.Frag} {mg : Str → Option Value} {base : Heap} {cx : Exc} {f : Addr} (T : Txt K mg cx) (c_mirroring : Fn P w K mg base "mirroring" ["word"] 4 (T_mirroring cx)) (c_last_mirrors : Fn P w K mg base "last_mirrors" ["word"] 3 (T_last_mirrors cx)) (c_mirrors : Fn P w K mg base "mirrors" ["word"] 3 (T_mirrors cx)) (c_periods : Fn P w K mg base "periods" ["word"] 4 (T_periods cx)) (c_borders : Fn P w K mg base "borders" ["word"] 3 (T_borders cx)) (c_parts : Fn P w K mg base "parts" ["word"] 3 (T_parts cx)) (c_overlap : Fn P w K mg base "overlap" ["one", "other"] 4 (T_overlap cx)) (c_free_words : Fn P w K mg base "free_words" ["length"] 3 (T_free_words cx)) (c_runs : Fn P w K mg base "runs" ["word"] 3 (T_runs cx)) (c_squares : Fn P w K mg base "squares" ["word"] 3 (T_squares cx)) (cdv : Value) (A : Around) (outer : List Env) (s : Shared) (H : Hp) (E : XK) (hr : Room 4 (A.deeper (PyProof.Rows.envOfC "_law_told" (defScope s_law_told) s.heap.objs.size f cdv))) :
    DSs (cxOf (L2N.CX P w) P w K mg base N_law_told "_law_told" (defScope s_law_told) f cdv A outer s H E) (fun cls d _ H' => E cls d H') (defBody s_law_told) (w_law_told cx) := by
  have tk : L2N.Takes (cxOf (L2N.CX P w) P w K mg base N_law_told "_law_told" (defScope s_law_told) f cdv A outer s H E) (fun cls d _ H' => E cls d H') := L2N.takes_of rfl rfl rfl rfl
  exact (dss_cons (ds_setN (i := 3) sc_law_told.nd rfl (Or.inl rfl) (dn_lst (da_cons (de_call c_parts tk (hr.mono (by decide)) (da_cons (de_var 0 (pv 0)) da_nil)) (da_cons (de_call c_borders tk (hr.mono (by decide)) (da_cons (de_var 0 (pv 0)) da_nil)) (da_cons (de_call c_periods tk (hr.mono (by decide)) (da_cons (de_add de_str (de_var 0 (pv 0))) da_nil)) (da_cons (de_call c_mirrors tk (hr.mono (by decide)) (da_cons (de_var 0 (pv 0)) da_nil)) (da_cons (de_call c_last_mirrors tk (hr.mono (by decide)) (da_cons (de_var 0 (pv 0)) da_nil)) (da_cons (de_call c_mirroring tk (hr.mono (by decide)) (da_cons (de_add de_str (de_var 0 (pv 0))) da_nil)) da_nil))))))))
    (dss_one (ds_ret (de_add (de_var 3 (pv 3)) (de_lst (da_cons (de_call c_squares tk (hr.mono (by decide)) (da_cons (de_var 0 (pv 0)) da_nil)) (da_cons (de_call c_runs tk (hr.mono (by decide)) (da_cons (de_var 0 (pv 0)) da_nil)) (da_cons (de_call c_free_words tk (hr.mono (by decide)) (da_cons (de_var 2 (pv 2)) da_nil)) (da_cons (de_lst (da_cons (de_call c_overlap tk (hr.mono (by decide)) (da_cons (de_var 0 (pv 0)) (da_cons (de_var 1 (pv 1)) da_nil))) da_nil)) da_nil)))))))))
theorem ok_law_told {P : Program} {w : World} {K : PySem.W.Frag} {mg : Str → Option Value} {base : Heap} {cx : Exc} {f : Addr} {fd : FuncData} (F : Fun K "_law_told" "_law_told" s_law_told f fd) (T : Txt K mg cx) (gf : mg "_law_told" = some (.ref f)) (bf : Binds K fd ["own", "other", "n"] []) (c_mirroring : Fn P w K mg base "mirroring" ["word"] 4 (T_mirroring cx)) (c_last_mirrors : Fn P w K mg base "last_mirrors" ["word"] 3 (T_last_mirrors cx)) (c_mirrors : Fn P w K mg base "mirrors" ["word"] 3 (T_mirrors cx)) (c_periods : Fn P w K mg base "periods" ["word"] 4 (T_periods cx)) (c_borders : Fn P w K mg base "borders" ["word"] 3 (T_borders cx)) (c_parts : Fn P w K mg base "parts" ["word"] 3 (T_parts cx)) (c_overlap : Fn P w K mg base "overlap" ["one", "other"] 4 (T_overlap cx)) (c_free_words : Fn P w K mg base "free_words" ["length"] 3 (T_free_words cx)) (c_runs : Fn P w K mg base "runs" ["word"] 3 (T_runs cx)) (c_squares : Fn P w K mg base "squares" ["word"] 3 (T_squares cx)) : Fn P w K mg base "_law_told" ["own", "other", "n"] 5 (T_law_told cx) :=
  ⟨⟨f, fd, okD F sc_law_told (b_law_told T c_mirroring c_last_mirrors c_mirrors c_periods c_borders c_parts c_overlap c_free_words c_runs c_squares) (by decide) (h_law_told cx), gf, F.kp, bf⟩, m_law_told cx⟩

/-! ### law -/
abbrev N_law : List Str := ["script", "town", "own", "other", "n", "first", "second", "w", "again", "some"]
theorem sc_law : FnScope N_law ["script"] (defScope s_law) := ⟨rfl, rfl, rfl, by decide +kernel, rfl, by decide +kernel, by decide +kernel⟩
def w_law (cx : Exc) : WS :=
    (wSeq (wSetN 1 (wLstN wNil))
    (wSeq (wPar 2 3 (wCons (wCallT 0 1 T_law_some_text (wCons (wC (.int 11)) wNil)) (wCons (wCallT 0 1 T_law_some_text (wCons (wC (.int 11)) wNil)) wNil)))
    (wSeq (wSet 4 (wCallT 0 1 T_law_draw (wCons (wC (.int 8)) wNil)))
    (wSeq (wSet 5 (wCall (T_law_told cx) (wCons (wVar 2) (wCons (wVar 3) (wCons (wVar 4) wNil)))))
    (wSeq (wSet 6 (wCall (T_law_told cx) (wCons (wVar 3) (wCons (wVar 2) (wCons (wOp addD (wVar 4) (wC (.int 1))) wNil)))))
    (wSeq (wSetN 7 (wMake cx.Writer))
    (wSeq (wDrop (wCallW cx.Writer 7 (T_Writer_write cx) (wCons (wC (.str "c")) wNil)))
    (wSeq (wFor (wRng1 (wCons (wC (.int 3)) wNil)) (set1 8) (wIfS (wOr (wB (wOp neD (wCallW cx.Writer 7 (T_Writer_word cx) wNil) (wC (.str "c")))) (wOr (wB (wOp neD (wCallW cx.Writer 7 (T_Writer_free_letters cx) wNil) (wFz (wLstN (wCons (wC (.str "a")) (wCons (wC (.str "b")) (wCons (wC (.str "d")) wNil))))))) (wB (wOp neD (wCallW cx.Writer 7 (lenT (T_Writer___len__ cx)) wNil) (wC (.int 1)))))) (wRet (wC (.bool false))) wNext))
    (wSeq (wForApp 9 (T_law_told cx) (wCons (wVar 2) (wCons (wVar 3) (wCons (wVar 4) wNil))))
    (wRet (wAndV (wOp eqD (wCall (T_law_told cx) (wCons (wVar 2) (wCons (wVar 3) (wCons (wVar 4) wNil)))) (wVar 5)) (wOp eqD (wCall (T_law_told cx) (wCons (wVar 3) (wCons (wVar 2) (wCons (wOp addD (wVar 4) (wC (.int 1))) wNil)))) (wVar 6)))))))))))))
def T_law : PTS := fun ns ds Q => ds = [] ∧ ns.length ≤ 63 ∧ Q (.bool true)
theorem m_law : ∀ ns ds Q Q', (∀ d, Q d → Q' d) → T_law ns ds Q → T_law ns ds Q' := fun _ _ _ _ h ⟨a, b, c⟩ => ⟨a, b, h _ c⟩
theorem T_law_of (ns : List Int) (h : ns.length ≤ 63) : T_law ns [] (fun d => d = .bool true) := ⟨rfl, h, rfl⟩
theorem addW_len : ∀ (M L : List (List Nat)), (M.foldl addW L).length ≤ L.length + M.length
  | [], L => by simp
  | x :: M, L => by
    have h1 := addW_len M (addW L x)
    have h2 : (addW L x).length ≤ L.length + 1 := by
      unfold addW
      split
      · omega
      · simp
    rw [List.foldl_cons, List.length_cons]
    omega
theorem parts_few (a : List Nat) : (partsL a).length ≤ a.length * a.length := by
  unfold partsL
  rw [List.length_mergeSort]
  have h1 := addW_len (facs a) []
  have h2 : (facs a).length ≤ (List.range a.length).length * a.length := flat_len (fun i => by
    unfold facsAt
    simp) _
  rw [List.length_range] at h2
  unfold uniq
  rw [List.length_nil] at h1
  omega
theorem mk_few : ∀ {L : List (List Nat)}, (∀ p ∈ L, mirB p = true) → L.length ≤ L.flatten.length
  | [], _ => by simp
  | p :: L, h => by
    have h1 := mk_few (L := L) fun q hq => h q (List.mem_cons_of_mem _ hq)
    have h2 := List.length_pos_iff.mpr (mirB_iff.mp (h p List.mem_cons_self)).1
    rw [List.flatten_cons, List.length_append, List.length_cons]
    omega
theorem told_few {a b : List Nat} {n : Nat} (ha : a.length ≤ 11) (hn : n ≤ 12) : (toldL a b n).length ≤ 1000 ∧ ∀ x ∈ toldL a b n, x.length ≤ 1000 := by
  refine ⟨by simp [toldL], fun x hx => ?_⟩
  have hsq : a.length * a.length ≤ 11 * 11 := Nat.mul_le_mul ha ha
  have h1 := parts_few a
  have h2 := borders_len a
  have h3 : (periodsL ([97] ++ a)).length ≤ 12 := by
    unfold periodsL
    have h := List.length_filter_le (perB ([97] ++ a)) (List.range' 1 ([97] ++ a).length)
    rw [List.length_range'] at h
    have hl : ([97] ++ a).length = a.length + 1 := by simp
    omega
  have h4 := List.length_filter_le mirB (partsL a)
  have h6 := mk_few (best_mk ([98] ++ a)).2
  rw [(best_mk ([98] ++ a)).1, List.length_append, List.length_singleton] at h6
  have h7 := sq_len a
  have h8 : (runsL a).length ≤ 12 := by
    rcases Nat.eq_zero_or_pos a.length with z | z
    · rw [List.length_eq_zero_iff.mp z]
      decide
    · have := few_runs z (by omega)
      omega
  have h9 := freeW_few hn
  simp only [toldL, List.mem_cons, List.not_mem_nil, or_false] at hx
  rcases hx with rfl | rfl | rfl | rfl | rfl | rfl | rfl | rfl | rfl | rfl
  · rw [List.length_map]
    omega
  · rw [List.length_map]
    omega
  · rw [List.length_map]
    omega
  · rw [List.length_map]
    unfold mirL
    omega
  · rw [List.length_map]
    unfold lastM
    simp
    omega
  · rw [List.length_map]
    omega
  · rw [List.length_map]
    omega
  · rw [List.length_map]
    omega
  · rw [List.length_map]
    omega
  · simp
theorem lay_of {α : Type} {e : α → PyData} {ok : α → Prop} {n : Nat} (h : Cod e ok n) (hn : n ≤ 50) (L : List α) (hL : ∀ x ∈ L, ok x) : PyData.canLay0 (.list (L.map e)) = true ∧ (PyData.list (L.map e)).depth ≤ 60 := by
  have h1 := (cod_list h).lay L hL
  have h2 := (cod_list h).dep L hL
  exact ⟨h1, by omega⟩
theorem told_shaped15 {a b : List Nat} {n : Nat} (wa : wordB a = true) (wb : wordB b = true) (ha : a.length ≤ 11) (hn : n ≤ 12) : SeqAt.shaped (.list ((toldL a b n).map PyData.list)) = true := by
  have cp : ∀ {l : List Nat}, wordB l = true → cpW l := fun h c hc => let_code (wordB_let h c hc)
  have wp : ∀ l ∈ partsL a, cpW l := fun l hl => by
    obtain ⟨x, y, rfl⟩ := infixB_iff.mp (mem_partsL.mp hl).2
    exact fun c hc => cp wa c (by simp [hc])
  refine shaped_list fun x hx => ?_
  obtain ⟨y, hy, rfl⟩ := List.mem_map.mp hx
  simp only [toldL, List.mem_cons, List.not_mem_nil, or_false] at hy
  rcases hy with rfl | rfl | rfl | rfl | rfl | rfl | rfl | rfl | rfl | rfl
  · exact lay_of cod_word (by omega) _ wp
  · exact lay_of cod_word (by omega) _ (borders_cp (cp wa))
  · exact lay_of cod_nat (by omega) _ fun _ _ => trivial
  · exact lay_of cod_word (by omega) _ fun l hl => wp l (List.mem_filter.mp hl).1
  · exact lay_of cod_nat (by omega) _ fun _ _ => trivial
  · exact lay_of cod_word (by omega) _ fun l hl => cp (best_word (word_cons (c := 98) wa ha rfl) l hl)
  · exact lay_of cod_pairE (by omega) _ fun _ _ => trivial
  · exact lay_of cod_tripE (by omega) _ fun _ _ => trivial
  · exact lay_of cod_word (by omega) _ fun l hl => cp (freeW_word hn hl)
  · exact lay_of cod_word (by omega) [b.take (lap a b)] fun l hl => by
      rw [List.mem_singleton.mp hl]
      exact cp (word_take wb _)
theorem cod_ch : Cod (fun c : Nat => S [c]) (fun c => c < 1114112) 0 := ⟨fun x h => cod_word.lay [x] (fun c hc => by rw [List.mem_singleton.mp hc]; exact h), fun x h => cod_word.dep [x] (fun c hc => by rw [List.mem_singleton.mp hc]; exact h), fun x y => by rw [cod_word.eqv]; simp⟩
theorem ne_ch {x y : List Nat} (hx : ∀ c ∈ x, c < 1114112) (hy : ∀ c ∈ y, c < 1114112) : neD (.list (ch x)) (.list (ch y)) = some (.bool (!decide (x = y))) := (cod_list cod_ch).ne hx hy
set_option maxHeartbeats 0 in
theorem h_law (cx : Exc) : ∀ ns ds Q, T_law ns ds Q → ds.length + 1 = 1 ∧ w_law cx (.scr ns :: startD 9 ds) (ends1 Q) := by
  rintro ns ds Q ⟨rfl, hn, hq⟩
  refine ⟨rfl, ?_⟩
  unfold w_law
  (repeat infer_instance)
  refine ⟨11, rfl, by decide, by simp, hn, fun a zs la ha hz => ?_⟩
  have wa := wordB_mk (by omega) ha
  simp only [List.length_nil] at hz
  try simp only [startD, wipeD, restoreD, keepS, twnSet, List.map_nil, List.nil_append, List.length_nil, Nat.sub_zero, List.replicate_succ, List.replicate_zero, List.set_cons_zero, List.set_cons_succ, List.getElem?_cons_zero, List.getElem?_cons_succ]
  (repeat infer_instance)
  refine ⟨11, rfl, by decide, by omega, hn, fun b zs2 lb hb hz2 => ?_⟩
  have wb := wordB_mk (by omega) hb
  try simp only [startD, wipeD, restoreD, keepS, twnSet, List.map_nil, List.nil_append, List.length_nil, Nat.sub_zero, List.replicate_succ, List.replicate_zero, List.set_cons_zero, List.set_cons_succ, List.getElem?_cons_zero, List.getElem?_cons_succ]
  (repeat infer_instance)
  refine ⟨_, rfl, by decide, by omega, hn, fun r r0 r1 => ?_⟩
  obtain ⟨n, rfl⟩ : ∃ k : Nat, r = (k : Int) := ⟨r.toNat, by omega⟩
  try simp only [startD, wipeD, restoreD, keepS, twnSet, List.map_nil, List.nil_append, List.length_nil, Nat.sub_zero, List.replicate_succ, List.replicate_zero, List.set_cons_zero, List.set_cons_succ, List.getElem?_cons_zero, List.getElem?_cons_succ]
  (repeat infer_instance)
  refine c_law_told wa wb (by omega) (by omega) ?_
  have e1 : (n : Int) + 1 = ((n + 1 : Nat) : Int) := by omega
  have wn : wordB [] = true := rfl
  have w99 : wordB [99] = true := rfl
  have l99 : letB 99 = true := rfl
  have f99 : freeLet [99] = [97, 98, 100] := by decide
  (repeat infer_instance)
  rw [e1]
  refine c_law_told wb wa (by omega) (by omega) ?_
  (repeat infer_instance)
  refine u_make fun t => ?_
  try simp only [startD, wipeD, restoreD, keepS, twnSet, List.map_nil, List.nil_append, List.length_nil, Nat.sub_zero, List.replicate_succ, List.replicate_zero, List.set_cons_zero, List.set_cons_succ, List.getElem?_cons_zero, List.getElem?_cons_succ]
  (repeat infer_instance)
  try simp only [startD, wipeD, restoreD, keepS, twnSet, List.map_nil, List.nil_append, List.length_nil, Nat.sub_zero, List.replicate_succ, List.replicate_zero, List.set_cons_zero, List.set_cons_succ, List.getElem?_cons_zero, List.getElem?_cons_succ]
  obtain ⟨f1, f2⟩ := told_few (a := a) (b := b) (n := n) la (by omega)
  have s1 := told_shaped15 (n := n) wa wb la (by omega)
  have s2 := told_shaped15 (n := n + 1) wb wa lb (by omega)
  have hta : ∀ {Q : PyData → Prop} {E : Value → Prop}, Q (.list ((toldL a b n).map PyData.list)) → T_law_told cx [S a, S b, .int (n : Int)] Q E := fun h => c_law_told wa wb la (by omega) h
  have htb : ∀ {Q : PyData → Prop} {E : Value → Prop}, Q (.list ((toldL b a (n + 1)).map PyData.list)) → T_law_told cx [S b, S a, .int ((n + 1 : Nat) : Int)] Q E := fun h => c_law_told wb wa lb (by omega) h
  generalize toldL a b n = A at *
  generalize toldL b a (n + 1) = B at *
  refine for_keepR (fun δ => ∃ y8, δ = [.scr ns, .own (.lst (zs2 ++ [.int 0])), .d (S a), .d (S b), .d (.int (n : Int)), .d (.list (A.map PyData.list)), .d (.list (B.map PyData.list)), wrS t cx.Writer [99] 0, y8, .no]) _ ⟨_, rfl⟩ ?_ ?_
  rotate_left 1
  · rintro x hx δ ⟨y8, rfl⟩ xs ih
    clear hx
    refine ⟨_, rfl, ?_⟩
    try simp only [startD, wipeD, restoreD, keepS, twnSet, List.map_nil, List.nil_append, List.length_nil, Nat.sub_zero, List.replicate_succ, List.replicate_zero, List.set_cons_zero, List.set_cons_succ, List.getElem?_cons_zero, List.getElem?_cons_succ]
    (repeat infer_instance)
    (repeat ((refine eqGo rfl ?_); (repeat infer_instance)))
    rw [f99]
    refine exs (ne_ch (x := [97, 98, 100]) (y := [97, 98, 100]) (by decide) (by decide)) ?_
    (repeat infer_instance)
    exact ih _ ⟨_, rfl⟩
  rintro δ ⟨y8, rfl⟩
  (repeat infer_instance)
  refine ⟨by simp, hta ⟨A, rfl, f2, f1, ?_⟩⟩
  try simp only [startD, wipeD, restoreD, keepS, twnSet, List.map_nil, List.nil_append, List.length_nil, Nat.sub_zero, List.replicate_succ, List.replicate_zero, List.set_cons_zero, List.set_cons_succ, List.getElem?_cons_zero, List.getElem?_cons_succ]
  (repeat infer_instance)
  refine hta ?_
  (repeat infer_instance)
  refine exs (eq_same s1) ?_
  (repeat infer_instance)
  rw [e1]
  refine htb ?_
  (repeat infer_instance)
  refine exs (eq_same s2) ?_
  (repeat infer_instance)
  exact hq
theorem b_law {P : Program} {w : World} {K : PySem.W.Frag} {mg : Str → Option Value} {base : Heap} {cx : Exc} {f : Addr} (T : Txt K mg cx) (c_law_some_text : FnT P w K mg base "_law_some_text" ["script", "town", "most"] 5 T_law_some_text) (c_law_draw : FnT P w K mg base "_law_draw" ["script", "town", "many"] 3 T_law_draw) (c_law_told : Fn P w K mg base "_law_told" ["own", "other", "n"] 5 (T_law_told cx)) (c_Writer___init__ : FnI P w K mg base "Writer" cx.Writer 1) (c_Writer_write : FnM P w K mg base cx.Writer "write" ["self", "letter"] 3 (T_Writer_write cx)) (c_Writer_word : FnM P w K mg base cx.Writer "word" ["self"] 1 (T_Writer_word cx)) (c_Writer_free_letters : FnM P w K mg base cx.Writer "free_letters" ["self"] 3 (T_Writer_free_letters cx)) (c_Writer___len__ : FnM P w K mg base cx.Writer "__len__" ["self"] 1 (T_Writer___len__ cx)) (cdv : Value) (A : Around) (outer : List Env) (s : Shared) (H : Hp) (E : XK) (hr : Room 5 (A.deeper (PyProof.Rows.envOfC "law" (defScope s_law) s.heap.objs.size f cdv))) :
    DSs (cxOf (L2N.CX P w) P w K mg base N_law "law" (defScope s_law) f cdv A outer s H E) (fun cls d _ H' => E cls d H') (defBody s_law) (w_law cx) := by
  have tk : L2N.Takes (cxOf (L2N.CX P w) P w K mg base N_law "law" (defScope s_law) f cdv A outer s H E) (fun cls d _ H' => E cls d H') := L2N.takes_of rfl rfl rfl rfl
  exact (dss_cons (ds_setN (i := 1) sc_law.nd rfl (Or.inl rfl) (dn_lst da_nil))
    (dss_cons (st_par rfl sc_law.nd rfl rfl (by decide) rfl rfl (da_cons (de_callTown c_law_some_text tk (hr.mono (by decide)) (pv 0) (pv 1) (da_cons de_int da_nil)) (da_cons (de_callTown c_law_some_text tk (hr.mono (by decide)) (pv 0) (pv 1) (da_cons de_int da_nil)) da_nil)))
    (dss_cons (ds_set (i := 4) sc_law.nd rfl (Or.inl rfl) (de_callTown c_law_draw tk (hr.mono (by decide)) (pv 0) (pv 1) (da_cons de_int da_nil)))
    (dss_cons (ds_set (i := 5) sc_law.nd rfl (Or.inl rfl) (de_call c_law_told tk (hr.mono (by decide)) (da_cons (de_var 2 (pv 2)) (da_cons (de_var 3 (pv 3)) (da_cons (de_var 4 (pv 4)) da_nil)))))
    (dss_cons (ds_set (i := 6) sc_law.nd rfl (Or.inl rfl) (de_call c_law_told tk (hr.mono (by decide)) (da_cons (de_var 3 (pv 3)) (da_cons (de_var 2 (pv 2)) (da_cons (de_add (de_var 4 (pv 4)) de_int) da_nil)))))
    (dss_cons (ds_setN (i := 7) sc_law.nd rfl (Or.inl rfl) (dn_make c_Writer___init__ (hr.mono (by decide))))
    (dss_cons (ds_expr (de_methW T.cW c_Writer_write tk (hr.mono (by decide)) (pv 7) (da_cons de_str da_nil)))
    (dss_cons (ds_for (passes_of rfl) rfl (di_range1 T.n_range (da_cons de_int da_nil)) (pg_name (i := 8) sc_law.nd rfl (Or.inl rfl)) (tgt1 8) (dss_one (ds_if (DW.dt (dw_or (dt_ne hr (de_methW0 T.cW c_Writer_word tk (hr.mono (by decide)) (pv 7)) de_str) (dw_or (dt_ne hr (de_methW0 T.cW c_Writer_free_letters tk (hr.mono (by decide)) (pv 7)) (de_lst (da_cons de_str (da_cons de_str (da_cons de_str da_nil))))) (dw_or1 (dt_ne hr (de_lenW c_Writer___len__ (hr.mono (by decide)) T.n_len (pv 7)) de_int))))) (dss_one (ds_ret de_bl)) dss_nil)))
    (dss_cons (st_forApp c_law_told tk (hr.mono (by decide)) (da_cons (de_var 2 (pv 2)) (da_cons (de_var 3 (pv 3)) (da_cons (de_var 4 (pv 4)) da_nil))) (passes_of rfl) rfl (pg_name (i := 9) sc_law.nd rfl (Or.inl rfl)) (pv 9))
    (dss_one (ds_ret (de_and (de_eq hr (de_call c_law_told tk (hr.mono (by decide)) (da_cons (de_var 2 (pv 2)) (da_cons (de_var 3 (pv 3)) (da_cons (de_var 4 (pv 4)) da_nil)))) (de_var 5 (pv 5))) (de_one (de_eq hr (de_call c_law_told tk (hr.mono (by decide)) (da_cons (de_var 3 (pv 3)) (da_cons (de_var 2 (pv 2)) (da_cons (de_add (de_var 4 (pv 4)) de_int) da_nil)))) (de_var 6 (pv 6))))))))))))))))
theorem ok_law {P : Program} {w : World} {K : PySem.W.Frag} {mg : Str → Option Value} {base : Heap} {cx : Exc} {f : Addr} {fd : FuncData} (F : Fun K "law" "law" s_law f fd) (T : Txt K mg cx) (c_law_some_text : FnT P w K mg base "_law_some_text" ["script", "town", "most"] 5 T_law_some_text) (c_law_draw : FnT P w K mg base "_law_draw" ["script", "town", "many"] 3 T_law_draw) (c_law_told : Fn P w K mg base "_law_told" ["own", "other", "n"] 5 (T_law_told cx)) (c_Writer___init__ : FnI P w K mg base "Writer" cx.Writer 1) (c_Writer_write : FnM P w K mg base cx.Writer "write" ["self", "letter"] 3 (T_Writer_write cx)) (c_Writer_word : FnM P w K mg base cx.Writer "word" ["self"] 1 (T_Writer_word cx)) (c_Writer_free_letters : FnM P w K mg base cx.Writer "free_letters" ["self"] 3 (T_Writer_free_letters cx)) (c_Writer___len__ : FnM P w K mg base cx.Writer "__len__" ["self"] 1 (T_Writer___len__ cx)) : FnOk P w K mg base (L2N.CX P w) 6 f fd ["script"] (spS K T_law) :=
  okS F sc_law (b_law T c_law_some_text c_law_draw c_law_told c_Writer___init__ c_Writer_write c_Writer_word c_Writer_free_letters c_Writer___len__) (by decide) (h_law cx)

theorem all_mk {P : Program} {w : World} {K : PySem.W.Frag} {h : Heap} {mg : Str → Option Value} {fa f_is_integer f_is_word f_check_word f_check_full f_part_list f_parts f_check_two f_shared f_overlap f_same_back f_mirror_list f_mirrors f_last_mirrors f_best_mirrors f_mirroring f_has_period f_period_list f_periods f_borders f_square_list f_squares f_runs f_ends_with_square f_free_words f_Writer___init__ f_Writer_write f_Writer_word f_Writer_free_letters f_Writer___len__ f_law_cell_at f_law_mixed f_law_draw f_law_pick f_law_some_text f_law_told f_law C_InvalidWord C_InvalidLetter C_InvalidNumber C_Empty C_TooLong C_Writer : Addr} (X : K.In h) (G : h.Ns mainGlobals mg) (hfa : mg "law" = some (.ref fa))
    {od_is_integer an_is_integer od_is_word an_is_word od_check_word an_check_word od_check_full an_check_full od_part_list an_part_list od_parts an_parts od_check_two an_check_two od_shared an_shared od_overlap an_overlap od_same_back an_same_back od_mirror_list an_mirror_list od_mirrors an_mirrors od_last_mirrors an_last_mirrors od_best_mirrors an_best_mirrors od_mirroring an_mirroring od_has_period an_has_period od_period_list an_period_list od_periods an_periods od_borders an_borders od_square_list an_square_list od_squares an_squares od_runs an_runs od_ends_with_square an_ends_with_square od_free_words an_free_words od_Writer___init__ an_Writer___init__ od_Writer_write an_Writer_write od_Writer_word an_Writer_word od_Writer_free_letters an_Writer_free_letters od_Writer___len__ an_Writer___len__ od_law_cell_at an_law_cell_at od_law_mixed an_law_mixed od_law_draw an_law_draw od_law_pick an_law_pick od_law_some_text an_law_some_text od_law_told an_law_told od_law an_law : Option Addr} {sl_is_integer sl_is_word sl_check_word sl_check_full sl_part_list sl_parts sl_check_two sl_shared sl_overlap sl_same_back sl_mirror_list sl_mirrors sl_last_mirrors sl_best_mirrors sl_mirroring sl_has_period sl_period_list sl_periods sl_borders sl_square_list sl_squares sl_runs sl_ends_with_square sl_free_words sl_Writer___init__ sl_Writer_write sl_Writer_word sl_Writer_free_letters sl_Writer___len__ sl_law_cell_at sl_law_mixed sl_law_draw sl_law_pick sl_law_some_text sl_law_told sl_law : Array (Option Value)} {oc_is_integer kV_is_integer dc_is_integer pm_is_integer cd_is_integer ct_is_integer oc_is_word kV_is_word dc_is_word pm_is_word cd_is_word ct_is_word oc_check_word kV_check_word dc_check_word pm_check_word cd_check_word ct_check_word oc_check_full kV_check_full dc_check_full pm_check_full cd_check_full ct_check_full oc_part_list kV_part_list dc_part_list pm_part_list cd_part_list ct_part_list oc_parts kV_parts dc_parts pm_parts cd_parts ct_parts oc_check_two kV_check_two dc_check_two pm_check_two cd_check_two ct_check_two oc_shared kV_shared dc_shared pm_shared cd_shared ct_shared oc_overlap kV_overlap dc_overlap pm_overlap cd_overlap ct_overlap oc_same_back kV_same_back dc_same_back pm_same_back cd_same_back ct_same_back oc_mirror_list kV_mirror_list dc_mirror_list pm_mirror_list cd_mirror_list ct_mirror_list oc_mirrors kV_mirrors dc_mirrors pm_mirrors cd_mirrors ct_mirrors oc_last_mirrors kV_last_mirrors dc_last_mirrors pm_last_mirrors cd_last_mirrors ct_last_mirrors oc_best_mirrors kV_best_mirrors dc_best_mirrors pm_best_mirrors cd_best_mirrors ct_best_mirrors oc_mirroring kV_mirroring dc_mirroring pm_mirroring cd_mirroring ct_mirroring oc_has_period kV_has_period dc_has_period pm_has_period cd_has_period ct_has_period oc_period_list kV_period_list dc_period_list pm_period_list cd_period_list ct_period_list oc_periods kV_periods dc_periods pm_periods cd_periods ct_periods oc_borders kV_borders dc_borders pm_borders cd_borders ct_borders oc_square_list kV_square_list dc_square_list pm_square_list cd_square_list ct_square_list oc_squares kV_squares dc_squares pm_squares cd_squares ct_squares oc_runs kV_runs dc_runs pm_runs cd_runs ct_runs oc_ends_with_square kV_ends_with_square dc_ends_with_square pm_ends_with_square cd_ends_with_square ct_ends_with_square oc_free_words kV_free_words dc_free_words pm_free_words cd_free_words ct_free_words oc_Writer___init__ kV_Writer___init__ dc_Writer___init__ pm_Writer___init__ cd_Writer___init__ ct_Writer___init__ oc_Writer_write kV_Writer_write dc_Writer_write pm_Writer_write cd_Writer_write ct_Writer_write oc_Writer_word kV_Writer_word dc_Writer_word pm_Writer_word cd_Writer_word ct_Writer_word oc_Writer_free_letters kV_Writer_free_letters dc_Writer_free_letters pm_Writer_free_letters cd_Writer_free_letters ct_Writer_free_letters oc_Writer___len__ kV_Writer___len__ dc_Writer___len__ pm_Writer___len__ cd_Writer___len__ ct_Writer___len__ oc_law_cell_at kV_law_cell_at dc_law_cell_at pm_law_cell_at cd_law_cell_at ct_law_cell_at oc_law_mixed kV_law_mixed dc_law_mixed pm_law_mixed cd_law_mixed ct_law_mixed oc_law_draw kV_law_draw dc_law_draw pm_law_draw cd_law_draw ct_law_draw oc_law_pick kV_law_pick dc_law_pick pm_law_pick cd_law_pick ct_law_pick oc_law_some_text kV_law_some_text dc_law_some_text pm_law_some_text cd_law_some_text ct_law_some_text oc_law_told kV_law_told dc_law_told pm_law_told cd_law_told ct_law_told oc_law kV_law dc_law pm_law cd_law ct_law : Value} {tok_LETTERS tok_MOST : Tok}
    (aX_Writer : PySem.W.nsIn K mainGlobals "Writer" = some (some (.ref C_Writer)))
    (pgW : PySem.W.plainGet K C_Writer Str.empty = true)
    (hdW : PySem.W.hasDictIn K C_Writer = true)
    (poW : PySem.W.plainOver K C_Writer = true)
    (saW : PySem.W.findIn K (.ref C_Writer) "__setattr__" = some (some (.builtin "object.__setattr__")))
    (mkW : PySem.W.makesIn K C_Writer = true)
    (kcW : PySem.W.keepIn K (.ref C_Writer) = true)
    (nLW : PySem.W.findIn K (.ref C_Writer) "letters" = some none)
    (nKW : PySem.W.findIn K (.ref C_Writer) "kept" = some none)
    (a_is_integer : PySem.W.nsIn K mainGlobals "is_integer" = some (some (.ref f_is_integer)))
    (l_is_integer : K.lookup f_is_integer = some ⟨oc_is_integer, od_is_integer, .func (PySem.W.fnOf "is_integer" "is_integer" (defArgs s_is_integer) (defBody s_is_integer) (defScope s_is_integer) .none kV_is_integer dc_is_integer pm_is_integer an_is_integer cd_is_integer ct_is_integer), sl_is_integer⟩)
    (c_is_integer : PySem.W.codeIn K cd_is_integer "is_integer" = true)
    (k_is_integer : PySem.W.keepIn K (.ref f_is_integer) = true)
    (a_is_word : PySem.W.nsIn K mainGlobals "is_word" = some (some (.ref f_is_word)))
    (l_is_word : K.lookup f_is_word = some ⟨oc_is_word, od_is_word, .func (PySem.W.fnOf "is_word" "is_word" (defArgs s_is_word) (defBody s_is_word) (defScope s_is_word) .none kV_is_word dc_is_word pm_is_word an_is_word cd_is_word ct_is_word), sl_is_word⟩)
    (c_is_word : PySem.W.codeIn K cd_is_word "is_word" = true)
    (k_is_word : PySem.W.keepIn K (.ref f_is_word) = true)
    (a_check_word : PySem.W.nsIn K mainGlobals "check_word" = some (some (.ref f_check_word)))
    (l_check_word : K.lookup f_check_word = some ⟨oc_check_word, od_check_word, .func (PySem.W.fnOf "check_word" "check_word" (defArgs s_check_word) (defBody s_check_word) (defScope s_check_word) .none kV_check_word dc_check_word pm_check_word an_check_word cd_check_word ct_check_word), sl_check_word⟩)
    (c_check_word : PySem.W.codeIn K cd_check_word "check_word" = true)
    (k_check_word : PySem.W.keepIn K (.ref f_check_word) = true)
    (a_check_full : PySem.W.nsIn K mainGlobals "check_full" = some (some (.ref f_check_full)))
    (l_check_full : K.lookup f_check_full = some ⟨oc_check_full, od_check_full, .func (PySem.W.fnOf "check_full" "check_full" (defArgs s_check_full) (defBody s_check_full) (defScope s_check_full) .none kV_check_full dc_check_full pm_check_full an_check_full cd_check_full ct_check_full), sl_check_full⟩)
    (c_check_full : PySem.W.codeIn K cd_check_full "check_full" = true)
    (k_check_full : PySem.W.keepIn K (.ref f_check_full) = true)
    (a_part_list : PySem.W.nsIn K mainGlobals "part_list" = some (some (.ref f_part_list)))
    (l_part_list : K.lookup f_part_list = some ⟨oc_part_list, od_part_list, .func (PySem.W.fnOf "part_list" "part_list" (defArgs s_part_list) (defBody s_part_list) (defScope s_part_list) .none kV_part_list dc_part_list pm_part_list an_part_list cd_part_list ct_part_list), sl_part_list⟩)
    (c_part_list : PySem.W.codeIn K cd_part_list "part_list" = true)
    (k_part_list : PySem.W.keepIn K (.ref f_part_list) = true)
    (a_parts : PySem.W.nsIn K mainGlobals "parts" = some (some (.ref f_parts)))
    (l_parts : K.lookup f_parts = some ⟨oc_parts, od_parts, .func (PySem.W.fnOf "parts" "parts" (defArgs s_parts) (defBody s_parts) (defScope s_parts) .none kV_parts dc_parts pm_parts an_parts cd_parts ct_parts), sl_parts⟩)
    (c_parts : PySem.W.codeIn K cd_parts "parts" = true)
    (k_parts : PySem.W.keepIn K (.ref f_parts) = true)
    (a_check_two : PySem.W.nsIn K mainGlobals "check_two" = some (some (.ref f_check_two)))
    (l_check_two : K.lookup f_check_two = some ⟨oc_check_two, od_check_two, .func (PySem.W.fnOf "check_two" "check_two" (defArgs s_check_two) (defBody s_check_two) (defScope s_check_two) .none kV_check_two dc_check_two pm_check_two an_check_two cd_check_two ct_check_two), sl_check_two⟩)
    (c_check_two : PySem.W.codeIn K cd_check_two "check_two" = true)
    (k_check_two : PySem.W.keepIn K (.ref f_check_two) = true)
    (a_shared : PySem.W.nsIn K mainGlobals "shared" = some (some (.ref f_shared)))
    (l_shared : K.lookup f_shared = some ⟨oc_shared, od_shared, .func (PySem.W.fnOf "shared" "shared" (defArgs s_shared) (defBody s_shared) (defScope s_shared) .none kV_shared dc_shared pm_shared an_shared cd_shared ct_shared), sl_shared⟩)
    (c_shared : PySem.W.codeIn K cd_shared "shared" = true)
    (k_shared : PySem.W.keepIn K (.ref f_shared) = true)
    (a_overlap : PySem.W.nsIn K mainGlobals "overlap" = some (some (.ref f_overlap)))
    (l_overlap : K.lookup f_overlap = some ⟨oc_overlap, od_overlap, .func (PySem.W.fnOf "overlap" "overlap" (defArgs s_overlap) (defBody s_overlap) (defScope s_overlap) .none kV_overlap dc_overlap pm_overlap an_overlap cd_overlap ct_overlap), sl_overlap⟩)
    (c_overlap : PySem.W.codeIn K cd_overlap "overlap" = true)
    (k_overlap : PySem.W.keepIn K (.ref f_overlap) = true)
    (a_same_back : PySem.W.nsIn K mainGlobals "same_back" = some (some (.ref f_same_back)))
    (l_same_back : K.lookup f_same_back = some ⟨oc_same_back, od_same_back, .func (PySem.W.fnOf "same_back" "same_back" (defArgs s_same_back) (defBody s_same_back) (defScope s_same_back) .none kV_same_back dc_same_back pm_same_back an_same_back cd_same_back ct_same_back), sl_same_back⟩)
    (c_same_back : PySem.W.codeIn K cd_same_back "same_back" = true)
    (k_same_back : PySem.W.keepIn K (.ref f_same_back) = true)
    (a_mirror_list : PySem.W.nsIn K mainGlobals "mirror_list" = some (some (.ref f_mirror_list)))
    (l_mirror_list : K.lookup f_mirror_list = some ⟨oc_mirror_list, od_mirror_list, .func (PySem.W.fnOf "mirror_list" "mirror_list" (defArgs s_mirror_list) (defBody s_mirror_list) (defScope s_mirror_list) .none kV_mirror_list dc_mirror_list pm_mirror_list an_mirror_list cd_mirror_list ct_mirror_list), sl_mirror_list⟩)
    (c_mirror_list : PySem.W.codeIn K cd_mirror_list "mirror_list" = true)
    (k_mirror_list : PySem.W.keepIn K (.ref f_mirror_list) = true)
    (a_mirrors : PySem.W.nsIn K mainGlobals "mirrors" = some (some (.ref f_mirrors)))
    (l_mirrors : K.lookup f_mirrors = some ⟨oc_mirrors, od_mirrors, .func (PySem.W.fnOf "mirrors" "mirrors" (defArgs s_mirrors) (defBody s_mirrors) (defScope s_mirrors) .none kV_mirrors dc_mirrors pm_mirrors an_mirrors cd_mirrors ct_mirrors), sl_mirrors⟩)
    (c_mirrors : PySem.W.codeIn K cd_mirrors "mirrors" = true)
    (k_mirrors : PySem.W.keepIn K (.ref f_mirrors) = true)
    (a_last_mirrors : PySem.W.nsIn K mainGlobals "last_mirrors" = some (some (.ref f_last_mirrors)))
    (l_last_mirrors : K.lookup f_last_mirrors = some ⟨oc_last_mirrors, od_last_mirrors, .func (PySem.W.fnOf "last_mirrors" "last_mirrors" (defArgs s_last_mirrors) (defBody s_last_mirrors) (defScope s_last_mirrors) .none kV_last_mirrors dc_last_mirrors pm_last_mirrors an_last_mirrors cd_last_mirrors ct_last_mirrors), sl_last_mirrors⟩)
    (c_last_mirrors : PySem.W.codeIn K cd_last_mirrors "last_mirrors" = true)
    (k_last_mirrors : PySem.W.keepIn K (.ref f_last_mirrors) = true)
    (a_best_mirrors : PySem.W.nsIn K mainGlobals "best_mirrors" = some (some (.ref f_best_mirrors)))
    (l_best_mirrors : K.lookup f_best_mirrors = some ⟨oc_best_mirrors, od_best_mirrors, .func (PySem.W.fnOf "best_mirrors" "best_mirrors" (defArgs s_best_mirrors) (defBody s_best_mirrors) (defScope s_best_mirrors) .none kV_best_mirrors dc_best_mirrors pm_best_mirrors an_best_mirrors cd_best_mirrors ct_best_mirrors), sl_best_mirrors⟩)
    (c_best_mirrors : PySem.W.codeIn K cd_best_mirrors "best_mirrors" = true)
    (k_best_mirrors : PySem.W.keepIn K (.ref f_best_mirrors) = true)
    (a_mirroring : PySem.W.nsIn K mainGlobals "mirroring" = some (some (.ref f_mirroring)))
    (l_mirroring : K.lookup f_mirroring = some ⟨oc_mirroring, od_mirroring, .func (PySem.W.fnOf "mirroring" "mirroring" (defArgs s_mirroring) (defBody s_mirroring) (defScope s_mirroring) .none kV_mirroring dc_mirroring pm_mirroring an_mirroring cd_mirroring ct_mirroring), sl_mirroring⟩)
    (c_mirroring : PySem.W.codeIn K cd_mirroring "mirroring" = true)
    (k_mirroring : PySem.W.keepIn K (.ref f_mirroring) = true)
    (a_has_period : PySem.W.nsIn K mainGlobals "has_period" = some (some (.ref f_has_period)))
    (l_has_period : K.lookup f_has_period = some ⟨oc_has_period, od_has_period, .func (PySem.W.fnOf "has_period" "has_period" (defArgs s_has_period) (defBody s_has_period) (defScope s_has_period) .none kV_has_period dc_has_period pm_has_period an_has_period cd_has_period ct_has_period), sl_has_period⟩)
    (c_has_period : PySem.W.codeIn K cd_has_period "has_period" = true)
    (k_has_period : PySem.W.keepIn K (.ref f_has_period) = true)
    (a_period_list : PySem.W.nsIn K mainGlobals "period_list" = some (some (.ref f_period_list)))
    (l_period_list : K.lookup f_period_list = some ⟨oc_period_list, od_period_list, .func (PySem.W.fnOf "period_list" "period_list" (defArgs s_period_list) (defBody s_period_list) (defScope s_period_list) .none kV_period_list dc_period_list pm_period_list an_period_list cd_period_list ct_period_list), sl_period_list⟩)
    (c_period_list : PySem.W.codeIn K cd_period_list "period_list" = true)
    (k_period_list : PySem.W.keepIn K (.ref f_period_list) = true)
    (a_periods : PySem.W.nsIn K mainGlobals "periods" = some (some (.ref f_periods)))
    (l_periods : K.lookup f_periods = some ⟨oc_periods, od_periods, .func (PySem.W.fnOf "periods" "periods" (defArgs s_periods) (defBody s_periods) (defScope s_periods) .none kV_periods dc_periods pm_periods an_periods cd_periods ct_periods), sl_periods⟩)
    (c_periods : PySem.W.codeIn K cd_periods "periods" = true)
    (k_periods : PySem.W.keepIn K (.ref f_periods) = true)
    (a_borders : PySem.W.nsIn K mainGlobals "borders" = some (some (.ref f_borders)))
    (l_borders : K.lookup f_borders = some ⟨oc_borders, od_borders, .func (PySem.W.fnOf "borders" "borders" (defArgs s_borders) (defBody s_borders) (defScope s_borders) .none kV_borders dc_borders pm_borders an_borders cd_borders ct_borders), sl_borders⟩)
    (c_borders : PySem.W.codeIn K cd_borders "borders" = true)
    (k_borders : PySem.W.keepIn K (.ref f_borders) = true)
    (a_square_list : PySem.W.nsIn K mainGlobals "square_list" = some (some (.ref f_square_list)))
    (l_square_list : K.lookup f_square_list = some ⟨oc_square_list, od_square_list, .func (PySem.W.fnOf "square_list" "square_list" (defArgs s_square_list) (defBody s_square_list) (defScope s_square_list) .none kV_square_list dc_square_list pm_square_list an_square_list cd_square_list ct_square_list), sl_square_list⟩)
    (c_square_list : PySem.W.codeIn K cd_square_list "square_list" = true)
    (k_square_list : PySem.W.keepIn K (.ref f_square_list) = true)
    (a_squares : PySem.W.nsIn K mainGlobals "squares" = some (some (.ref f_squares)))
    (l_squares : K.lookup f_squares = some ⟨oc_squares, od_squares, .func (PySem.W.fnOf "squares" "squares" (defArgs s_squares) (defBody s_squares) (defScope s_squares) .none kV_squares dc_squares pm_squares an_squares cd_squares ct_squares), sl_squares⟩)
    (c_squares : PySem.W.codeIn K cd_squares "squares" = true)
    (k_squares : PySem.W.keepIn K (.ref f_squares) = true)
    (a_runs : PySem.W.nsIn K mainGlobals "runs" = some (some (.ref f_runs)))
    (l_runs : K.lookup f_runs = some ⟨oc_runs, od_runs, .func (PySem.W.fnOf "runs" "runs" (defArgs s_runs) (defBody s_runs) (defScope s_runs) .none kV_runs dc_runs pm_runs an_runs cd_runs ct_runs), sl_runs⟩)
    (c_runs : PySem.W.codeIn K cd_runs "runs" = true)
    (k_runs : PySem.W.keepIn K (.ref f_runs) = true)
    (a_ends_with_square : PySem.W.nsIn K mainGlobals "ends_with_square" = some (some (.ref f_ends_with_square)))
    (l_ends_with_square : K.lookup f_ends_with_square = some ⟨oc_ends_with_square, od_ends_with_square, .func (PySem.W.fnOf "ends_with_square" "ends_with_square" (defArgs s_ends_with_square) (defBody s_ends_with_square) (defScope s_ends_with_square) .none kV_ends_with_square dc_ends_with_square pm_ends_with_square an_ends_with_square cd_ends_with_square ct_ends_with_square), sl_ends_with_square⟩)
    (c_ends_with_square : PySem.W.codeIn K cd_ends_with_square "ends_with_square" = true)
    (k_ends_with_square : PySem.W.keepIn K (.ref f_ends_with_square) = true)
    (a_free_words : PySem.W.nsIn K mainGlobals "free_words" = some (some (.ref f_free_words)))
    (l_free_words : K.lookup f_free_words = some ⟨oc_free_words, od_free_words, .func (PySem.W.fnOf "free_words" "free_words" (defArgs s_free_words) (defBody s_free_words) (defScope s_free_words) .none kV_free_words dc_free_words pm_free_words an_free_words cd_free_words ct_free_words), sl_free_words⟩)
    (c_free_words : PySem.W.codeIn K cd_free_words "free_words" = true)
    (k_free_words : PySem.W.keepIn K (.ref f_free_words) = true)
    (a_Writer___init__ : PySem.W.findIn K (.ref C_Writer) "__init__" = some (some (.ref f_Writer___init__)))
    (i_Writer___init__ : PySem.W.isFn K (.ref f_Writer___init__) = true)
    (l_Writer___init__ : K.lookup f_Writer___init__ = some ⟨oc_Writer___init__, od_Writer___init__, .func (PySem.W.fnOf "__init__" "Writer.__init__" (defArgs s_Writer___init__) (defBody s_Writer___init__) (defScope s_Writer___init__) .none kV_Writer___init__ dc_Writer___init__ pm_Writer___init__ an_Writer___init__ cd_Writer___init__ ct_Writer___init__), sl_Writer___init__⟩)
    (c_Writer___init__ : PySem.W.codeIn K cd_Writer___init__ "Writer.__init__" = true)
    (k_Writer___init__ : PySem.W.keepIn K (.ref f_Writer___init__) = true)
    (a_Writer_write : PySem.W.findIn K (.ref C_Writer) "write" = some (some (.ref f_Writer_write)))
    (i_Writer_write : PySem.W.isFn K (.ref f_Writer_write) = true)
    (l_Writer_write : K.lookup f_Writer_write = some ⟨oc_Writer_write, od_Writer_write, .func (PySem.W.fnOf "write" "Writer.write" (defArgs s_Writer_write) (defBody s_Writer_write) (defScope s_Writer_write) .none kV_Writer_write dc_Writer_write pm_Writer_write an_Writer_write cd_Writer_write ct_Writer_write), sl_Writer_write⟩)
    (c_Writer_write : PySem.W.codeIn K cd_Writer_write "Writer.write" = true)
    (k_Writer_write : PySem.W.keepIn K (.ref f_Writer_write) = true)
    (a_Writer_word : PySem.W.findIn K (.ref C_Writer) "word" = some (some (.ref f_Writer_word)))
    (i_Writer_word : PySem.W.isFn K (.ref f_Writer_word) = true)
    (l_Writer_word : K.lookup f_Writer_word = some ⟨oc_Writer_word, od_Writer_word, .func (PySem.W.fnOf "word" "Writer.word" (defArgs s_Writer_word) (defBody s_Writer_word) (defScope s_Writer_word) .none kV_Writer_word dc_Writer_word pm_Writer_word an_Writer_word cd_Writer_word ct_Writer_word), sl_Writer_word⟩)
    (c_Writer_word : PySem.W.codeIn K cd_Writer_word "Writer.word" = true)
    (k_Writer_word : PySem.W.keepIn K (.ref f_Writer_word) = true)
    (a_Writer_free_letters : PySem.W.findIn K (.ref C_Writer) "free_letters" = some (some (.ref f_Writer_free_letters)))
    (i_Writer_free_letters : PySem.W.isFn K (.ref f_Writer_free_letters) = true)
    (l_Writer_free_letters : K.lookup f_Writer_free_letters = some ⟨oc_Writer_free_letters, od_Writer_free_letters, .func (PySem.W.fnOf "free_letters" "Writer.free_letters" (defArgs s_Writer_free_letters) (defBody s_Writer_free_letters) (defScope s_Writer_free_letters) .none kV_Writer_free_letters dc_Writer_free_letters pm_Writer_free_letters an_Writer_free_letters cd_Writer_free_letters ct_Writer_free_letters), sl_Writer_free_letters⟩)
    (c_Writer_free_letters : PySem.W.codeIn K cd_Writer_free_letters "Writer.free_letters" = true)
    (k_Writer_free_letters : PySem.W.keepIn K (.ref f_Writer_free_letters) = true)
    (a_Writer___len__ : PySem.W.findIn K (.ref C_Writer) "__len__" = some (some (.ref f_Writer___len__)))
    (i_Writer___len__ : PySem.W.isFn K (.ref f_Writer___len__) = true)
    (l_Writer___len__ : K.lookup f_Writer___len__ = some ⟨oc_Writer___len__, od_Writer___len__, .func (PySem.W.fnOf "__len__" "Writer.__len__" (defArgs s_Writer___len__) (defBody s_Writer___len__) (defScope s_Writer___len__) .none kV_Writer___len__ dc_Writer___len__ pm_Writer___len__ an_Writer___len__ cd_Writer___len__ ct_Writer___len__), sl_Writer___len__⟩)
    (c_Writer___len__ : PySem.W.codeIn K cd_Writer___len__ "Writer.__len__" = true)
    (k_Writer___len__ : PySem.W.keepIn K (.ref f_Writer___len__) = true)
    (a_law_cell_at : PySem.W.nsIn K mainGlobals "_law_cell_at" = some (some (.ref f_law_cell_at)))
    (l_law_cell_at : K.lookup f_law_cell_at = some ⟨oc_law_cell_at, od_law_cell_at, .func (PySem.W.fnOf "_law_cell_at" "_law_cell_at" (defArgs s_law_cell_at) (defBody s_law_cell_at) (defScope s_law_cell_at) .none kV_law_cell_at dc_law_cell_at pm_law_cell_at an_law_cell_at cd_law_cell_at ct_law_cell_at), sl_law_cell_at⟩)
    (c_law_cell_at : PySem.W.codeIn K cd_law_cell_at "_law_cell_at" = true)
    (k_law_cell_at : PySem.W.keepIn K (.ref f_law_cell_at) = true)
    (a_law_mixed : PySem.W.nsIn K mainGlobals "_law_mixed" = some (some (.ref f_law_mixed)))
    (l_law_mixed : K.lookup f_law_mixed = some ⟨oc_law_mixed, od_law_mixed, .func (PySem.W.fnOf "_law_mixed" "_law_mixed" (defArgs s_law_mixed) (defBody s_law_mixed) (defScope s_law_mixed) .none kV_law_mixed dc_law_mixed pm_law_mixed an_law_mixed cd_law_mixed ct_law_mixed), sl_law_mixed⟩)
    (c_law_mixed : PySem.W.codeIn K cd_law_mixed "_law_mixed" = true)
    (k_law_mixed : PySem.W.keepIn K (.ref f_law_mixed) = true)
    (a_law_draw : PySem.W.nsIn K mainGlobals "_law_draw" = some (some (.ref f_law_draw)))
    (l_law_draw : K.lookup f_law_draw = some ⟨oc_law_draw, od_law_draw, .func (PySem.W.fnOf "_law_draw" "_law_draw" (defArgs s_law_draw) (defBody s_law_draw) (defScope s_law_draw) .none kV_law_draw dc_law_draw pm_law_draw an_law_draw cd_law_draw ct_law_draw), sl_law_draw⟩)
    (c_law_draw : PySem.W.codeIn K cd_law_draw "_law_draw" = true)
    (k_law_draw : PySem.W.keepIn K (.ref f_law_draw) = true)
    (a_law_pick : PySem.W.nsIn K mainGlobals "_law_pick" = some (some (.ref f_law_pick)))
    (l_law_pick : K.lookup f_law_pick = some ⟨oc_law_pick, od_law_pick, .func (PySem.W.fnOf "_law_pick" "_law_pick" (defArgs s_law_pick) (defBody s_law_pick) (defScope s_law_pick) .none kV_law_pick dc_law_pick pm_law_pick an_law_pick cd_law_pick ct_law_pick), sl_law_pick⟩)
    (c_law_pick : PySem.W.codeIn K cd_law_pick "_law_pick" = true)
    (k_law_pick : PySem.W.keepIn K (.ref f_law_pick) = true)
    (a_law_some_text : PySem.W.nsIn K mainGlobals "_law_some_text" = some (some (.ref f_law_some_text)))
    (l_law_some_text : K.lookup f_law_some_text = some ⟨oc_law_some_text, od_law_some_text, .func (PySem.W.fnOf "_law_some_text" "_law_some_text" (defArgs s_law_some_text) (defBody s_law_some_text) (defScope s_law_some_text) .none kV_law_some_text dc_law_some_text pm_law_some_text an_law_some_text cd_law_some_text ct_law_some_text), sl_law_some_text⟩)
    (c_law_some_text : PySem.W.codeIn K cd_law_some_text "_law_some_text" = true)
    (k_law_some_text : PySem.W.keepIn K (.ref f_law_some_text) = true)
    (a_law_told : PySem.W.nsIn K mainGlobals "_law_told" = some (some (.ref f_law_told)))
    (l_law_told : K.lookup f_law_told = some ⟨oc_law_told, od_law_told, .func (PySem.W.fnOf "_law_told" "_law_told" (defArgs s_law_told) (defBody s_law_told) (defScope s_law_told) .none kV_law_told dc_law_told pm_law_told an_law_told cd_law_told ct_law_told), sl_law_told⟩)
    (c_law_told : PySem.W.codeIn K cd_law_told "_law_told" = true)
    (k_law_told : PySem.W.keepIn K (.ref f_law_told) = true)
    (a_law : PySem.W.nsIn K mainGlobals "law" = some (some (.ref f_law)))
    (l_law : K.lookup f_law = some ⟨oc_law, od_law, .func (PySem.W.fnOf "law" "law" (defArgs s_law) (defBody s_law) (defScope s_law) .none kV_law dc_law pm_law an_law cd_law ct_law), sl_law⟩)
    (c_law : PySem.W.codeIn K cd_law "law" = true)
    (k_law : PySem.W.keepIn K (.ref f_law) = true)
    (aX_InvalidWord : PySem.W.nsIn K mainGlobals "InvalidWord" = some (some (.ref C_InvalidWord)))
    (xX_InvalidWord : PySem.W.excIn K C_InvalidWord [.type "ValueError", .type "Exception", .type "BaseException", .type "object"] "ValueError.__new__" = true)
    (kX_InvalidWord : PySem.W.keepIn K (.ref C_InvalidWord) = true)
    (bX_InvalidWord : PySem.W.subIn K (.ref C_InvalidWord) (.type "BaseException") = some true)
    (tX_InvalidWord : PySem.W.typeIn K (.ref C_InvalidWord) = some (.type "type"))
    (aX_InvalidLetter : PySem.W.nsIn K mainGlobals "InvalidLetter" = some (some (.ref C_InvalidLetter)))
    (xX_InvalidLetter : PySem.W.excIn K C_InvalidLetter [.type "ValueError", .type "Exception", .type "BaseException", .type "object"] "ValueError.__new__" = true)
    (kX_InvalidLetter : PySem.W.keepIn K (.ref C_InvalidLetter) = true)
    (bX_InvalidLetter : PySem.W.subIn K (.ref C_InvalidLetter) (.type "BaseException") = some true)
    (tX_InvalidLetter : PySem.W.typeIn K (.ref C_InvalidLetter) = some (.type "type"))
    (aX_InvalidNumber : PySem.W.nsIn K mainGlobals "InvalidNumber" = some (some (.ref C_InvalidNumber)))
    (xX_InvalidNumber : PySem.W.excIn K C_InvalidNumber [.type "ValueError", .type "Exception", .type "BaseException", .type "object"] "ValueError.__new__" = true)
    (kX_InvalidNumber : PySem.W.keepIn K (.ref C_InvalidNumber) = true)
    (bX_InvalidNumber : PySem.W.subIn K (.ref C_InvalidNumber) (.type "BaseException") = some true)
    (tX_InvalidNumber : PySem.W.typeIn K (.ref C_InvalidNumber) = some (.type "type"))
    (aX_Empty : PySem.W.nsIn K mainGlobals "Empty" = some (some (.ref C_Empty)))
    (xX_Empty : PySem.W.excIn K C_Empty [.type "ValueError", .type "Exception", .type "BaseException", .type "object"] "ValueError.__new__" = true)
    (kX_Empty : PySem.W.keepIn K (.ref C_Empty) = true)
    (bX_Empty : PySem.W.subIn K (.ref C_Empty) (.type "BaseException") = some true)
    (tX_Empty : PySem.W.typeIn K (.ref C_Empty) = some (.type "type"))
    (aX_TooLong : PySem.W.nsIn K mainGlobals "TooLong" = some (some (.ref C_TooLong)))
    (xX_TooLong : PySem.W.excIn K C_TooLong [.type "ValueError", .type "Exception", .type "BaseException", .type "object"] "ValueError.__new__" = true)
    (kX_TooLong : PySem.W.keepIn K (.ref C_TooLong) = true)
    (bX_TooLong : PySem.W.subIn K (.ref C_TooLong) (.type "BaseException") = some true)
    (tX_TooLong : PySem.W.typeIn K (.ref C_TooLong) = some (.type "type"))
    (aG_LETTERS : PySem.W.nsIn K mainGlobals "LETTERS" = some (some (.str "abcd" tok_LETTERS)))
    (aG_MOST : PySem.W.nsIn K mainGlobals "MOST" = some (some (.int 12 tok_MOST)))
    (z_all : PySem.W.nsIn K mainGlobals "all" = some none)
    (z_any : PySem.W.nsIn K mainGlobals "any" = some none)
    (z_bool : PySem.W.nsIn K mainGlobals "bool" = some none)
    (z_int : PySem.W.nsIn K mainGlobals "int" = some none)
    (z_isinstance : PySem.W.nsIn K mainGlobals "isinstance" = some none)
    (z_len : PySem.W.nsIn K mainGlobals "len" = some none)
    (z_min : PySem.W.nsIn K mainGlobals "min" = some none)
    (z_range : PySem.W.nsIn K mainGlobals "range" = some none)
    (z_sorted : PySem.W.nsIn K mainGlobals "sorted" = some none)
    (z_str : PySem.W.nsIn K mainGlobals "str" = some none) :
    ∃ fd : FuncData, (∀ (s : Shared) (v : Value), BindsTo s fd ⟨[v], []⟩ [("script", v)]) ∧ ∀ base : Heap, K.In base → base.Ns mainGlobals mg → FnOk P w K mg base (L2N.CX P w) 6 fa fd ["script"] (spS K T_law) := by
  have e := hfa.symm.trans (PySem.W.mg_of X G a_law)
  cases e
  let cx : Exc := ⟨0, C_InvalidWord, C_InvalidLetter, C_InvalidNumber, C_Empty, C_TooLong, C_Writer⟩
  have T : Txt K mg cx := ⟨PySem.W.mg_none_of X G z_all, PySem.W.mg_none_of X G z_any, PySem.W.mg_none_of X G z_bool, PySem.W.mg_none_of X G z_int, PySem.W.mg_none_of X G z_isinstance, PySem.W.mg_none_of X G z_len, PySem.W.mg_none_of X G z_min, PySem.W.mg_none_of X G z_range, PySem.W.mg_none_of X G z_sorted, PySem.W.mg_none_of X G z_str, ⟨_, PySem.W.mg_of X G aG_LETTERS⟩, ⟨_, PySem.W.mg_of X G aG_MOST⟩, PySem.W.mg_of X G aX_InvalidWord, xX_InvalidWord, kX_InvalidWord, bX_InvalidWord, tX_InvalidWord, PySem.W.mg_of X G aX_InvalidLetter, xX_InvalidLetter, kX_InvalidLetter, bX_InvalidLetter, tX_InvalidLetter, PySem.W.mg_of X G aX_InvalidNumber, xX_InvalidNumber, kX_InvalidNumber, bX_InvalidNumber, tX_InvalidNumber, PySem.W.mg_of X G aX_Empty, xX_Empty, kX_Empty, bX_Empty, tX_Empty, PySem.W.mg_of X G aX_TooLong, xX_TooLong, kX_TooLong, bX_TooLong, tX_TooLong, ⟨⟨pgW, hdW, poW, saW⟩, nLW, nKW⟩, PySem.W.mg_of X G aX_Writer⟩
  have F_is_integer := fun_mk (st := s_is_integer) l_is_integer c_is_integer k_is_integer
  have B_is_integer := F_is_integer.binds (ps := ["value", "low", "high"]) fun _ _ _ _ _ _ us hl => match us, hl with | [_, _, _], _ => rfl
  have F_is_word := fun_mk (st := s_is_word) l_is_word c_is_word k_is_word
  have B_is_word := F_is_word.binds (ps := ["value"]) fun _ _ _ _ _ _ us hl => match us, hl with | [_], _ => rfl
  have F_check_word := fun_mk (st := s_check_word) l_check_word c_check_word k_check_word
  have B_check_word := F_check_word.binds (ps := ["word"]) fun _ _ _ _ _ _ us hl => match us, hl with | [_], _ => rfl
  have F_check_full := fun_mk (st := s_check_full) l_check_full c_check_full k_check_full
  have B_check_full := F_check_full.binds (ps := ["word"]) fun _ _ _ _ _ _ us hl => match us, hl with | [_], _ => rfl
  have F_part_list := fun_mk (st := s_part_list) l_part_list c_part_list k_part_list
  have B_part_list := F_part_list.binds (ps := ["word"]) fun _ _ _ _ _ _ us hl => match us, hl with | [_], _ => rfl
  have F_parts := fun_mk (st := s_parts) l_parts c_parts k_parts
  have B_parts := F_parts.binds (ps := ["word"]) fun _ _ _ _ _ _ us hl => match us, hl with | [_], _ => rfl
  have F_check_two := fun_mk (st := s_check_two) l_check_two c_check_two k_check_two
  have B_check_two := F_check_two.binds (ps := ["one", "other"]) fun _ _ _ _ _ _ us hl => match us, hl with | [_, _], _ => rfl
  have F_shared := fun_mk (st := s_shared) l_shared c_shared k_shared
  have B_shared := F_shared.binds (ps := ["one", "other"]) fun _ _ _ _ _ _ us hl => match us, hl with | [_, _], _ => rfl
  have F_overlap := fun_mk (st := s_overlap) l_overlap c_overlap k_overlap
  have B_overlap := F_overlap.binds (ps := ["one", "other"]) fun _ _ _ _ _ _ us hl => match us, hl with | [_, _], _ => rfl
  have F_same_back := fun_mk (st := s_same_back) l_same_back c_same_back k_same_back
  have B_same_back := F_same_back.binds (ps := ["word"]) fun _ _ _ _ _ _ us hl => match us, hl with | [_], _ => rfl
  have F_mirror_list := fun_mk (st := s_mirror_list) l_mirror_list c_mirror_list k_mirror_list
  have B_mirror_list := F_mirror_list.binds (ps := ["word"]) fun _ _ _ _ _ _ us hl => match us, hl with | [_], _ => rfl
  have F_mirrors := fun_mk (st := s_mirrors) l_mirrors c_mirrors k_mirrors
  have B_mirrors := F_mirrors.binds (ps := ["word"]) fun _ _ _ _ _ _ us hl => match us, hl with | [_], _ => rfl
  have F_last_mirrors := fun_mk (st := s_last_mirrors) l_last_mirrors c_last_mirrors k_last_mirrors
  have B_last_mirrors := F_last_mirrors.binds (ps := ["word"]) fun _ _ _ _ _ _ us hl => match us, hl with | [_], _ => rfl
  have F_best_mirrors := fun_mk (st := s_best_mirrors) l_best_mirrors c_best_mirrors k_best_mirrors
  have B_best_mirrors := F_best_mirrors.binds (ps := ["word"]) fun _ _ _ _ _ _ us hl => match us, hl with | [_], _ => rfl
  have F_mirroring := fun_mk (st := s_mirroring) l_mirroring c_mirroring k_mirroring
  have B_mirroring := F_mirroring.binds (ps := ["word"]) fun _ _ _ _ _ _ us hl => match us, hl with | [_], _ => rfl
  have F_has_period := fun_mk (st := s_has_period) l_has_period c_has_period k_has_period
  have B_has_period := F_has_period.binds (ps := ["word", "p"]) fun _ _ _ _ _ _ us hl => match us, hl with | [_, _], _ => rfl
  have F_period_list := fun_mk (st := s_period_list) l_period_list c_period_list k_period_list
  have B_period_list := F_period_list.binds (ps := ["word"]) fun _ _ _ _ _ _ us hl => match us, hl with | [_], _ => rfl
  have F_periods := fun_mk (st := s_periods) l_periods c_periods k_periods
  have B_periods := F_periods.binds (ps := ["word"]) fun _ _ _ _ _ _ us hl => match us, hl with | [_], _ => rfl
  have F_borders := fun_mk (st := s_borders) l_borders c_borders k_borders
  have B_borders := F_borders.binds (ps := ["word"]) fun _ _ _ _ _ _ us hl => match us, hl with | [_], _ => rfl
  have F_square_list := fun_mk (st := s_square_list) l_square_list c_square_list k_square_list
  have B_square_list := F_square_list.binds (ps := ["word"]) fun _ _ _ _ _ _ us hl => match us, hl with | [_], _ => rfl
  have F_squares := fun_mk (st := s_squares) l_squares c_squares k_squares
  have B_squares := F_squares.binds (ps := ["word"]) fun _ _ _ _ _ _ us hl => match us, hl with | [_], _ => rfl
  have F_runs := fun_mk (st := s_runs) l_runs c_runs k_runs
  have B_runs := F_runs.binds (ps := ["word"]) fun _ _ _ _ _ _ us hl => match us, hl with | [_], _ => rfl
  have F_ends_with_square := fun_mk (st := s_ends_with_square) l_ends_with_square c_ends_with_square k_ends_with_square
  have B_ends_with_square := F_ends_with_square.binds (ps := ["word"]) fun _ _ _ _ _ _ us hl => match us, hl with | [_], _ => rfl
  have F_free_words := fun_mk (st := s_free_words) l_free_words c_free_words k_free_words
  have B_free_words := F_free_words.binds (ps := ["length"]) fun _ _ _ _ _ _ us hl => match us, hl with | [_], _ => rfl
  have F_Writer___init__ := fun_mk (st := s_Writer___init__) l_Writer___init__ c_Writer___init__ k_Writer___init__
  have B_Writer___init__ := F_Writer___init__.binds (ps := ["self"]) fun _ _ _ _ _ _ us hl => match us, hl with | [_], _ => rfl
  have F_Writer_write := fun_mk (st := s_Writer_write) l_Writer_write c_Writer_write k_Writer_write
  have B_Writer_write := F_Writer_write.binds (ps := ["self", "letter"]) fun _ _ _ _ _ _ us hl => match us, hl with | [_, _], _ => rfl
  have F_Writer_word := fun_mk (st := s_Writer_word) l_Writer_word c_Writer_word k_Writer_word
  have B_Writer_word := F_Writer_word.binds (ps := ["self"]) fun _ _ _ _ _ _ us hl => match us, hl with | [_], _ => rfl
  have F_Writer_free_letters := fun_mk (st := s_Writer_free_letters) l_Writer_free_letters c_Writer_free_letters k_Writer_free_letters
  have B_Writer_free_letters := F_Writer_free_letters.binds (ps := ["self"]) fun _ _ _ _ _ _ us hl => match us, hl with | [_], _ => rfl
  have F_Writer___len__ := fun_mk (st := s_Writer___len__) l_Writer___len__ c_Writer___len__ k_Writer___len__
  have B_Writer___len__ := F_Writer___len__.binds (ps := ["self"]) fun _ _ _ _ _ _ us hl => match us, hl with | [_], _ => rfl
  have F_law_cell_at := fun_mk (st := s_law_cell_at) l_law_cell_at c_law_cell_at k_law_cell_at
  have B_law_cell_at := F_law_cell_at.binds (ps := ["script", "k"]) fun _ _ _ _ _ _ us hl => match us, hl with | [_, _], _ => rfl
  have F_law_mixed := fun_mk (st := s_law_mixed) l_law_mixed c_law_mixed k_law_mixed
  have B_law_mixed := F_law_mixed.binds (ps := ["script", "k", "many"]) fun _ _ _ _ _ _ us hl => match us, hl with | [_, _, _], _ => rfl
  have F_law_draw := fun_mk (st := s_law_draw) l_law_draw c_law_draw k_law_draw
  have B_law_draw := F_law_draw.binds (ps := ["script", "town", "many"]) fun _ _ _ _ _ _ us hl => match us, hl with | [_, _, _], _ => rfl
  have F_law_pick := fun_mk (st := s_law_pick) l_law_pick c_law_pick k_law_pick
  have B_law_pick := F_law_pick.binds (ps := ["script", "town", "some"]) fun _ _ _ _ _ _ us hl => match us, hl with | [_, _, _], _ => rfl
  have F_law_some_text := fun_mk (st := s_law_some_text) l_law_some_text c_law_some_text k_law_some_text
  have B_law_some_text := F_law_some_text.binds (ps := ["script", "town", "most"]) fun _ _ _ _ _ _ us hl => match us, hl with | [_, _, _], _ => rfl
  have F_law_told := fun_mk (st := s_law_told) l_law_told c_law_told k_law_told
  have B_law_told := F_law_told.binds (ps := ["own", "other", "n"]) fun _ _ _ _ _ _ us hl => match us, hl with | [_, _, _], _ => rfl
  have F_law := fun_mk (st := s_law) l_law c_law k_law
  have B_law := F_law.binds (ps := ["script"]) fun _ _ _ _ _ _ us hl => match us, hl with | [_], _ => rfl
  refine ⟨PySem.W.fnOf "law" "law" (defArgs s_law) (defBody s_law) (defScope s_law) .none kV_law dc_law pm_law an_law cd_law ct_law, fun s v => .of_eq rfl, fun base _ _ => ?_⟩
  have G_is_integer := ok_is_integer (P := P) (w := w) (base := base) F_is_integer T (PySem.W.mg_of X G a_is_integer) B_is_integer 
  have G_is_word := ok_is_word (P := P) (w := w) (base := base) F_is_word T (PySem.W.mg_of X G a_is_word) B_is_word 
  have G_check_word := ok_check_word (P := P) (w := w) (base := base) F_check_word T (PySem.W.mg_of X G a_check_word) B_check_word G_is_word
  have G_check_full := ok_check_full (P := P) (w := w) (base := base) F_check_full T (PySem.W.mg_of X G a_check_full) B_check_full G_check_word
  have G_part_list := ok_part_list (P := P) (w := w) (base := base) F_part_list T (PySem.W.mg_of X G a_part_list) B_part_list 
  have G_parts := ok_parts (P := P) (w := w) (base := base) F_parts T (PySem.W.mg_of X G a_parts) B_parts G_check_word G_part_list
  have G_check_two := ok_check_two (P := P) (w := w) (base := base) F_check_two T (PySem.W.mg_of X G a_check_two) B_check_two G_check_word
  have G_shared := ok_shared (P := P) (w := w) (base := base) F_shared T (PySem.W.mg_of X G a_shared) B_shared 
  have G_overlap := ok_overlap (P := P) (w := w) (base := base) F_overlap T (PySem.W.mg_of X G a_overlap) B_overlap G_check_two G_shared
  have G_same_back := ok_same_back (P := P) (w := w) (base := base) F_same_back T (PySem.W.mg_of X G a_same_back) B_same_back 
  have G_mirror_list := ok_mirror_list (P := P) (w := w) (base := base) F_mirror_list T (PySem.W.mg_of X G a_mirror_list) B_mirror_list G_part_list G_same_back
  have G_mirrors := ok_mirrors (P := P) (w := w) (base := base) F_mirrors T (PySem.W.mg_of X G a_mirrors) B_mirrors G_check_word G_mirror_list
  have G_last_mirrors := ok_last_mirrors (P := P) (w := w) (base := base) F_last_mirrors T (PySem.W.mg_of X G a_last_mirrors) B_last_mirrors G_check_word G_same_back
  have G_best_mirrors := ok_best_mirrors (P := P) (w := w) (base := base) F_best_mirrors T (PySem.W.mg_of X G a_best_mirrors) B_best_mirrors G_same_back
  have G_mirroring := ok_mirroring (P := P) (w := w) (base := base) F_mirroring T (PySem.W.mg_of X G a_mirroring) B_mirroring G_check_full G_best_mirrors
  have G_has_period := ok_has_period (P := P) (w := w) (base := base) F_has_period T (PySem.W.mg_of X G a_has_period) B_has_period 
  have G_period_list := ok_period_list (P := P) (w := w) (base := base) F_period_list T (PySem.W.mg_of X G a_period_list) B_period_list G_has_period
  have G_periods := ok_periods (P := P) (w := w) (base := base) F_periods T (PySem.W.mg_of X G a_periods) B_periods G_check_full G_period_list
  have G_borders := ok_borders (P := P) (w := w) (base := base) F_borders T (PySem.W.mg_of X G a_borders) B_borders G_check_word
  have G_square_list := ok_square_list (P := P) (w := w) (base := base) F_square_list T (PySem.W.mg_of X G a_square_list) B_square_list 
  have G_squares := ok_squares (P := P) (w := w) (base := base) F_squares T (PySem.W.mg_of X G a_squares) B_squares G_check_word G_square_list
  have G_runs := ok_runs (P := P) (w := w) (base := base) F_runs T (PySem.W.mg_of X G a_runs) B_runs G_check_word G_square_list G_period_list
  have G_ends_with_square := ok_ends_with_square (P := P) (w := w) (base := base) F_ends_with_square T (PySem.W.mg_of X G a_ends_with_square) B_ends_with_square G_has_period
  have G_free_words := ok_free_words (P := P) (w := w) (base := base) F_free_words T (PySem.W.mg_of X G a_free_words) B_free_words G_is_integer G_ends_with_square
  have G_Writer___init__ := ok_Writer___init__ (P := P) (w := w) (base := base) F_Writer___init__ T ⟨mkW, a_Writer___init__, i_Writer___init__, kcW⟩ B_Writer___init__
  have G_Writer_write := ok_Writer_write (P := P) (w := w) (base := base) F_Writer_write T ⟨a_Writer_write, i_Writer_write, k_Writer_write⟩ B_Writer_write G_mirror_list
  have G_Writer_word := ok_Writer_word (P := P) (w := w) (base := base) F_Writer_word T ⟨a_Writer_word, i_Writer_word, k_Writer_word⟩ B_Writer_word 
  have G_Writer_free_letters := ok_Writer_free_letters (P := P) (w := w) (base := base) F_Writer_free_letters T ⟨a_Writer_free_letters, i_Writer_free_letters, k_Writer_free_letters⟩ B_Writer_free_letters G_ends_with_square
  have G_Writer___len__ := ok_Writer___len__ (P := P) (w := w) (base := base) F_Writer___len__ T ⟨a_Writer___len__, i_Writer___len__, k_Writer___len__⟩ B_Writer___len__ 
  have G_law_cell_at := ok_law_cell_at (P := P) (w := w) (base := base) F_law_cell_at T (PySem.W.mg_of X G a_law_cell_at) B_law_cell_at 
  have G_law_mixed := ok_law_mixed (P := P) (w := w) (base := base) F_law_mixed T (PySem.W.mg_of X G a_law_mixed) B_law_mixed G_law_cell_at
  have G_law_draw := ok_law_draw (P := P) (w := w) (base := base) F_law_draw T (PySem.W.mg_of X G a_law_draw) B_law_draw G_law_mixed
  have G_law_pick := ok_law_pick (P := P) (w := w) (base := base) F_law_pick T (PySem.W.mg_of X G a_law_pick) B_law_pick G_law_draw
  have G_law_some_text := ok_law_some_text (P := P) (w := w) (base := base) F_law_some_text T (PySem.W.mg_of X G a_law_some_text) B_law_some_text G_law_draw G_law_pick
  have G_law_told := ok_law_told (P := P) (w := w) (base := base) F_law_told T (PySem.W.mg_of X G a_law_told) B_law_told G_mirroring G_last_mirrors G_mirrors G_periods G_borders G_parts G_overlap G_free_words G_runs G_squares
  exact ok_law F_law T G_law_some_text G_law_draw G_law_told G_Writer___init__ G_Writer_write G_Writer_word G_Writer_free_letters G_Writer___len__
theorem walk {l : PySem.W.OpenLaw} {q : Program} {loose : List Str} {XP : (Str → Option Value) → Heap → Prop} {YP : World → Heap → Prop} {d : DefRec} {K : Params → PySem.W.Frag} (hn : l.most = some 63) (hdf : d.params.defaults = [])
    (hY : ∀ (w : World) (h : Heap), YP w h → (K w.params).In h)
    (F : ∀ (w : World) (mg : Str → Option Value) (fa : Addr) (h : Heap), (K w.params).In h → h.Ns mainGlobals mg → mg d.name = some (.ref fa) →
      ∃ fd : FuncData, (∀ (s : Shared) (u : Value), BindsTo s fd ⟨[u], []⟩ [("script", u)]) ∧ ∀ base : Heap, (K w.params).In base → base.Ns mainGlobals mg → FnOk l.prog w (K w.params) mg base (L2N.CX l.prog w) 6 fa fd ["script"] (spS (K w.params) T_law)) :
    PySem.W.WalkO q loose XP YP l.row.toRowW d [] (fun f vs => PySem.call f vs) :=
  walkS hn (by show Room 6 callerA; exact ⟨rfl, by decide, by decide⟩) hdf hY F (fun ns hl => T_law_of ns hl) m_law
end RD
open PySem PySem.W PyProof.Rows
set_option maxRecDepth 100000 in
set_option maxHeartbeats 0 in
theorem PySem.Challenge.cw_runwords_k15_whole_repeated_calls_holds : PySem.Challenge.rw_runwords_k15_whole_repeated_calls.Holds := by
  w_on; o_law; k_head; (case hw => w_witness2)
  k_fill
  refine RD.walk (l := PySem.Challenge.rw_runwords_k15_whole_repeated_calls) rfl rfl (fun w h Y => PySem.W.kIn_of Y) ?F
  case F =>
    intro w mg fa h KX G hmg
    refine' RD.all_mk KX G hmg ?aX_Writer ?pgW ?hdW ?poW ?saW ?mkW ?kcW ?nLW ?nKW ?a_is_integer ?l_is_integer ?c_is_integer ?k_is_integer ?a_is_word ?l_is_word ?c_is_word ?k_is_word ?a_check_word ?l_check_word ?c_check_word ?k_check_word ?a_check_full ?l_check_full ?c_check_full ?k_check_full ?a_part_list ?l_part_list ?c_part_list ?k_part_list ?a_parts ?l_parts ?c_parts ?k_parts ?a_check_two ?l_check_two ?c_check_two ?k_check_two ?a_shared ?l_shared ?c_shared ?k_shared ?a_overlap ?l_overlap ?c_overlap ?k_overlap ?a_same_back ?l_same_back ?c_same_back ?k_same_back ?a_mirror_list ?l_mirror_list ?c_mirror_list ?k_mirror_list ?a_mirrors ?l_mirrors ?c_mirrors ?k_mirrors ?a_last_mirrors ?l_last_mirrors ?c_last_mirrors ?k_last_mirrors ?a_best_mirrors ?l_best_mirrors ?c_best_mirrors ?k_best_mirrors ?a_mirroring ?l_mirroring ?c_mirroring ?k_mirroring ?a_has_period ?l_has_period ?c_has_period ?k_has_period ?a_period_list ?l_period_list ?c_period_list ?k_period_list ?a_periods ?l_periods ?c_periods ?k_periods ?a_borders ?l_borders ?c_borders ?k_borders ?a_square_list ?l_square_list ?c_square_list ?k_square_list ?a_squares ?l_squares ?c_squares ?k_squares ?a_runs ?l_runs ?c_runs ?k_runs ?a_ends_with_square ?l_ends_with_square ?c_ends_with_square ?k_ends_with_square ?a_free_words ?l_free_words ?c_free_words ?k_free_words ?i_Writer___init__ ?a_Writer___init__ ?l_Writer___init__ ?c_Writer___init__ ?k_Writer___init__ ?i_Writer_write ?a_Writer_write ?l_Writer_write ?c_Writer_write ?k_Writer_write ?i_Writer_word ?a_Writer_word ?l_Writer_word ?c_Writer_word ?k_Writer_word ?i_Writer_free_letters ?a_Writer_free_letters ?l_Writer_free_letters ?c_Writer_free_letters ?k_Writer_free_letters ?i_Writer___len__ ?a_Writer___len__ ?l_Writer___len__ ?c_Writer___len__ ?k_Writer___len__ ?a_law_cell_at ?l_law_cell_at ?c_law_cell_at ?k_law_cell_at ?a_law_mixed ?l_law_mixed ?c_law_mixed ?k_law_mixed ?a_law_draw ?l_law_draw ?c_law_draw ?k_law_draw ?a_law_pick ?l_law_pick ?c_law_pick ?k_law_pick ?a_law_some_text ?l_law_some_text ?c_law_some_text ?k_law_some_text ?a_law_told ?l_law_told ?c_law_told ?k_law_told ?a_law ?l_law ?c_law ?k_law ?aX_InvalidWord ?xX_InvalidWord ?kX_InvalidWord ?bX_InvalidWord ?tX_InvalidWord ?aX_InvalidLetter ?xX_InvalidLetter ?kX_InvalidLetter ?bX_InvalidLetter ?tX_InvalidLetter ?aX_InvalidNumber ?xX_InvalidNumber ?kX_InvalidNumber ?bX_InvalidNumber ?tX_InvalidNumber ?aX_Empty ?xX_Empty ?kX_Empty ?bX_Empty ?tX_Empty ?aX_TooLong ?xX_TooLong ?kX_TooLong ?bX_TooLong ?tX_TooLong ?aG_LETTERS ?aG_MOST ?z_all ?z_any ?z_bool ?z_int ?z_isinstance ?z_len ?z_min ?z_range ?z_sorted ?z_str
    (case aX_Writer => k_is)
    (case pgW => k_is)
    (case hdW => k_is)
    (case poW => k_is)
    (case saW => k_is)
    (case mkW => k_is)
    (case kcW => k_is)
    (case nLW => k_is)
    (case nKW => k_is)
    (case a_is_integer => k_is)
    (case l_is_integer => k_is)
    (case c_is_integer => k_is)
    (case k_is_integer => k_is)
    (case a_is_word => k_is)
    (case l_is_word => k_is)
    (case c_is_word => k_is)
    (case k_is_word => k_is)
    (case a_check_word => k_is)
    (case l_check_word => k_is)
    (case c_check_word => k_is)
    (case k_check_word => k_is)
    (case a_check_full => k_is)
    (case l_check_full => k_is)
    (case c_check_full => k_is)
    (case k_check_full => k_is)
    (case a_part_list => k_is)
    (case l_part_list => k_is)
    (case c_part_list => k_is)
    (case k_part_list => k_is)
    (case a_parts => k_is)
    (case l_parts => k_is)
    (case c_parts => k_is)
    (case k_parts => k_is)
    (case a_check_two => k_is)
    (case l_check_two => k_is)
    (case c_check_two => k_is)
    (case k_check_two => k_is)
    (case a_shared => k_is)
    (case l_shared => k_is)
    (case c_shared => k_is)
    (case k_shared => k_is)
    (case a_overlap => k_is)
    (case l_overlap => k_is)
    (case c_overlap => k_is)
    (case k_overlap => k_is)
    (case a_same_back => k_is)
    (case l_same_back => k_is)
    (case c_same_back => k_is)
    (case k_same_back => k_is)
    (case a_mirror_list => k_is)
    (case l_mirror_list => k_is)
    (case c_mirror_list => k_is)
    (case k_mirror_list => k_is)
    (case a_mirrors => k_is)
    (case l_mirrors => k_is)
    (case c_mirrors => k_is)
    (case k_mirrors => k_is)
    (case a_last_mirrors => k_is)
    (case l_last_mirrors => k_is)
    (case c_last_mirrors => k_is)
    (case k_last_mirrors => k_is)
    (case a_best_mirrors => k_is)
    (case l_best_mirrors => k_is)
    (case c_best_mirrors => k_is)
    (case k_best_mirrors => k_is)
    (case a_mirroring => k_is)
    (case l_mirroring => k_is)
    (case c_mirroring => k_is)
    (case k_mirroring => k_is)
    (case a_has_period => k_is)
    (case l_has_period => k_is)
    (case c_has_period => k_is)
    (case k_has_period => k_is)
    (case a_period_list => k_is)
    (case l_period_list => k_is)
    (case c_period_list => k_is)
    (case k_period_list => k_is)
    (case a_periods => k_is)
    (case l_periods => k_is)
    (case c_periods => k_is)
    (case k_periods => k_is)
    (case a_borders => k_is)
    (case l_borders => k_is)
    (case c_borders => k_is)
    (case k_borders => k_is)
    (case a_square_list => k_is)
    (case l_square_list => k_is)
    (case c_square_list => k_is)
    (case k_square_list => k_is)
    (case a_squares => k_is)
    (case l_squares => k_is)
    (case c_squares => k_is)
    (case k_squares => k_is)
    (case a_runs => k_is)
    (case l_runs => k_is)
    (case c_runs => k_is)
    (case k_runs => k_is)
    (case a_ends_with_square => k_is)
    (case l_ends_with_square => k_is)
    (case c_ends_with_square => k_is)
    (case k_ends_with_square => k_is)
    (case a_free_words => k_is)
    (case l_free_words => k_is)
    (case c_free_words => k_is)
    (case k_free_words => k_is)
    (case i_Writer___init__ => k_is)
    (case a_Writer___init__ => k_is)
    (case l_Writer___init__ => k_is)
    (case c_Writer___init__ => k_is)
    (case k_Writer___init__ => k_is)
    (case i_Writer_write => k_is)
    (case a_Writer_write => k_is)
    (case l_Writer_write => k_is)
    (case c_Writer_write => k_is)
    (case k_Writer_write => k_is)
    (case i_Writer_word => k_is)
    (case a_Writer_word => k_is)
    (case l_Writer_word => k_is)
    (case c_Writer_word => k_is)
    (case k_Writer_word => k_is)
    (case i_Writer_free_letters => k_is)
    (case a_Writer_free_letters => k_is)
    (case l_Writer_free_letters => k_is)
    (case c_Writer_free_letters => k_is)
    (case k_Writer_free_letters => k_is)
    (case i_Writer___len__ => k_is)
    (case a_Writer___len__ => k_is)
    (case l_Writer___len__ => k_is)
    (case c_Writer___len__ => k_is)
    (case k_Writer___len__ => k_is)
    (case a_law_cell_at => k_is)
    (case l_law_cell_at => k_is)
    (case c_law_cell_at => k_is)
    (case k_law_cell_at => k_is)
    (case a_law_mixed => k_is)
    (case l_law_mixed => k_is)
    (case c_law_mixed => k_is)
    (case k_law_mixed => k_is)
    (case a_law_draw => k_is)
    (case l_law_draw => k_is)
    (case c_law_draw => k_is)
    (case k_law_draw => k_is)
    (case a_law_pick => k_is)
    (case l_law_pick => k_is)
    (case c_law_pick => k_is)
    (case k_law_pick => k_is)
    (case a_law_some_text => k_is)
    (case l_law_some_text => k_is)
    (case c_law_some_text => k_is)
    (case k_law_some_text => k_is)
    (case a_law_told => k_is)
    (case l_law_told => k_is)
    (case c_law_told => k_is)
    (case k_law_told => k_is)
    (case a_law => k_is)
    (case l_law => k_is)
    (case c_law => k_is)
    (case k_law => k_is)
    (case aX_InvalidWord => k_is)
    (case xX_InvalidWord => k_exc)
    (case kX_InvalidWord => k_is)
    (case bX_InvalidWord => k_is)
    (case tX_InvalidWord => k_is)
    (case aX_InvalidLetter => k_is)
    (case xX_InvalidLetter => k_exc)
    (case kX_InvalidLetter => k_is)
    (case bX_InvalidLetter => k_is)
    (case tX_InvalidLetter => k_is)
    (case aX_InvalidNumber => k_is)
    (case xX_InvalidNumber => k_exc)
    (case kX_InvalidNumber => k_is)
    (case bX_InvalidNumber => k_is)
    (case tX_InvalidNumber => k_is)
    (case aX_Empty => k_is)
    (case xX_Empty => k_exc)
    (case kX_Empty => k_is)
    (case bX_Empty => k_is)
    (case tX_Empty => k_is)
    (case aX_TooLong => k_is)
    (case xX_TooLong => k_exc)
    (case kX_TooLong => k_is)
    (case bX_TooLong => k_is)
    (case tX_TooLong => k_is)
    (case aG_LETTERS => k_is)
    (case aG_MOST => k_is)
    (case z_all => k_is)
    (case z_any => k_is)
    (case z_bool => k_is)
    (case z_int => k_is)
    (case z_isinstance => k_is)
    (case z_len => k_is)
    (case z_min => k_is)
    (case z_range => k_is)
    (case z_sorted => k_is)
    (case z_str => k_is)

