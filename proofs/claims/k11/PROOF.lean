import PyProof.Rows.All
import HandS.ForMost
import HandS.Wide
import HandS.WideMore
import HandS.WideBits
import HandS.Gcd
import HandS.IsInst
import HandS.Property
import HandS.Style
import HandS.Flow
import HandS.Defaults
import HandS.Exc
import HandS.ExcOwn
import HandS.WordsExc
import HandS.OwnEq
import HandS.NoneIn
import HandS.Zip
import HandS.FStr
import HandS.RaiseMore
import HandS.Codes
import HandS.ClsMeth
import HandS.Ends
import PySem.Challenge.RW_soughtrows_k11_whole_numbers_reckoned
import Wide.All
import OpenK.AllK
import Wide.FinOn
section
set_option Elab.async false
set_option linter.all false
set_option maxRecDepth 100000
set_option maxHeartbeats 4000000
namespace VS
open PySem PySem.Spec PyProof.Rows L2
abbrev VV := L2.V
abbrev St := L2.St

/-- values as data -/
inductive D where
  | non | bl (b : Bool) | int (i : Int) | str (z : Str) | pot
  | lst (ds : List D) | tup (ds : List D) | ins (C : Addr) (ns : List Str) (ds : List D) | scr (ns : List Int)
  deriving Inhabited

/-- a list of the script's kind: not to be written -/
def SqF (K : PySem.W.Frag) (H : Hp) (a : Addr) (xs : List VV) : Prop := (∃ o, H a = some (.frz o (.lst xs))) ∨ ∃ (o : Obj) (its : Array Value) (n : Nat), K.lookup a = some o ∧ o.cls = .type "list" ∧ o.dict = none ∧ o.data = .seq its n ∧ its.size ≤ sizeLine ∧ Vals xs its.toList
theorem SqF.sq {K : PySem.W.Frag} {H : Hp} {a : Addr} {xs : List VV} (h : SqF K H a xs) : SqL K H a xs := h.elim (fun h => .inl (.inr h)) .inr
theorem SqF.mono {K : PySem.W.Frag} {H H' : Hp} {a : Addr} {xs : List VV} (e : Same H H') (h : SqF K H a xs) : SqF K H' a xs := h.elim (fun ⟨o, h⟩ => .inl ⟨o, e _ _ h⟩) .inr
mutual
/-- the value v is the datum d, in the settled part F of the heap -/
inductive DR (K : PySem.W.Frag) (P : Option Addr) (F : Hp) : VV → D → Prop
  | non : DR K P F .non .non
  | bl (b : Bool) : DR K P F (.bl b) (.bl b)
  | int (i : Int) : DR K P F (.int i) (.int i)
  | str (z : Str) : DR K P F (.str z) (.str z)
  | pot {p : Addr} (h : P = some p) : DR K P F (.ref p) .pot
  | scr {a : Addr} {ns : List Int} (h : SqF K F a (ns.map V.int)) : DR K P F (.ref a) (.scr ns)
  | lst {a : Addr} {vs : List VV} {ds : List D} (h : F a = some (.lst vs)) (r : DRs K P F vs ds) : DR K P F (.ref a) (.lst ds)
  | tup {a : Addr} {vs : List VV} {ds : List D} (h : SqT K F a vs) (r : DRs K P F vs ds) : DR K P F (.ref a) (.tup ds)
  | ins {a C dx : Addr} {fs : List (Str × VV)} {ns : List Str} {ds : List D} (h : F a = some (.ins C dx fs)) (e : fs.map (·.1) = ns) (r : DRs K P F (fs.map (·.2)) ds) : DR K P F (.ref a) (.ins C ns ds)
inductive DRs (K : PySem.W.Frag) (P : Option Addr) (F : Hp) : List VV → List D → Prop
  | nil : DRs K P F [] []
  | cons {v : VV} {d : D} {vs : List VV} {ds : List D} (h : DR K P F v d) (t : DRs K P F vs ds) : DRs K P F (v :: vs) (d :: ds)
end

theorem same_sqT {K : PySem.W.Frag} {H H' : Hp} {a : Addr} {xs : List VV} (e : Same H H') (h : SqT K H a xs) : SqT K H' a xs := by
  rcases h with (h | ⟨o, h⟩) | h
  · exact .inl (.inl (e _ _ h))
  · exact .inl (.inr ⟨o, e _ _ h⟩)
  · exact .inr h
section
variable {K : PySem.W.Frag} {P : Option Addr} {F F' H H' : Hp}
mutual
theorem DR.mono (e : Same F F') : ∀ {v : VV} {d : D}, DR K P F v d → DR K P F' v d
  | _, _, .non => .non
  | _, _, .bl b => .bl b
  | _, _, .int i => .int i
  | _, _, .str z => .str z
  | _, _, .pot h => .pot h
  | _, _, .scr h => .scr (h.mono e)
  | _, _, .lst h r => .lst (e _ _ h) (DRs.mono e r)
  | _, _, .tup h r => .tup (same_sqT e h) (DRs.mono e r)
  | _, _, .ins h q r => .ins (e _ _ h) q (DRs.mono e r)
theorem DRs.mono (e : Same F F') : ∀ {vs : List VV} {ds : List D}, DRs K P F vs ds → DRs K P F' vs ds
  | _, _, .nil => .nil
  | _, _, .cons h t => .cons (DR.mono e h) (DRs.mono e t)
end
theorem DRs.length : ∀ {vs : List VV} {ds : List D}, DRs K P F vs ds → vs.length = ds.length
  | _, _, .nil => rfl
  | _, _, .cons _ t => by rw [List.length_cons, List.length_cons, DRs.length t]
theorem DRs.append : ∀ {vs us : List VV} {ds es : List D}, DRs K P F vs ds → DRs K P F us es → DRs K P F (vs ++ us) (ds ++ es)
  | _, _, _, _, .nil, s => s
  | _, _, _, _, .cons h t, s => .cons h (DRs.append t s)
theorem DRs.take : ∀ {vs : List VV} {ds : List D} (n : Nat), DRs K P F vs ds → DRs K P F (vs.take n) (ds.take n)
  | _, _, 0, _ => .nil
  | _, _, _ + 1, .nil => .nil
  | _, _, n + 1, .cons h t => .cons h (DRs.take n t)
theorem DRs.drop : ∀ {vs : List VV} {ds : List D} (n : Nat), DRs K P F vs ds → DRs K P F (vs.drop n) (ds.drop n)
  | _, _, 0, r => r
  | _, _, _ + 1, .nil => .nil
  | _, _, n + 1, .cons _ t => DRs.drop n t
theorem DRs.reverse : ∀ {vs : List VV} {ds : List D}, DRs K P F vs ds → DRs K P F vs.reverse ds.reverse
  | _, _, .nil => .nil
  | _, _, .cons h t => by
    rw [List.reverse_cons, List.reverse_cons]
    exact (DRs.reverse t).append (.cons h .nil)
theorem DRs.get : ∀ {vs : List VV} {ds : List D} {i : Nat} {d : D}, DRs K P F vs ds → ds[i]? = some d → ∃ v, vs[i]? = some v ∧ DR K P F v d
  | _, _, i, _, .nil, e => by simp at e
  | _, _, 0, _, .cons h _, e => by simp at e; subst e; exact ⟨_, rfl, h⟩
  | _, _, i + 1, _, .cons _ t, e => by
    obtain ⟨v, h1, h2⟩ := DRs.get (i := i) t (by simpa using e)
    exact ⟨v, by simpa using h1, h2⟩
theorem DRs.getV : ∀ {vs : List VV} {ds : List D} {i : Nat} {v : VV}, DRs K P F vs ds → vs[i]? = some v → ∃ d, ds[i]? = some d ∧ DR K P F v d
  | _, _, i, _, .nil, e => by simp at e
  | _, _, 0, _, .cons h _, e => by simp at e; subst e; exact ⟨_, rfl, h⟩
  | _, _, i + 1, _, .cons _ t, e => by
    obtain ⟨v, h1, h2⟩ := DRs.getV (i := i) t (by simpa using e)
    exact ⟨v, by simpa using h1, h2⟩
theorem DRs.set {v : VV} {d : D} (h : DR K P F v d) : ∀ {vs : List VV} {ds : List D} (i : Nat), DRs K P F vs ds → DRs K P F (vs.set i v) (ds.set i d)
  | _, _, _, .nil => .nil
  | _, _, 0, .cons _ t => .cons h t
  | _, _, i + 1, .cons q t => .cons q (DRs.set h i t)
theorem DRs.dropLast : ∀ {vs : List VV} {ds : List D}, DRs K P F vs ds → DRs K P F vs.dropLast ds.dropLast := fun {vs ds} r => by
  rw [List.dropLast_eq_take, List.dropLast_eq_take, r.length]
  exact r.take _
end

/-! ### the state -/
inductive Sl where
  | un | sh (d : D) | ow (d : D)
structure S where
  sl : List Sl
  pot : Option (Int × Int)

def OwR (K : PySem.W.Frag) (P : Option Addr) (F H : Hp) (a : Addr) (d : D) : Prop := match d with
  | .lst ds => ∃ vs, H a = some (.lst vs) ∧ DRs K P F vs ds
  | .ins C ns ds => ∃ dx fs, H a = some (.ins C dx fs) ∧ fs.map (·.1) = ns ∧ DRs K P F (fs.map (·.2)) ds
  | _ => False
def SlR (K : PySem.W.Frag) (P : Option Addr) (F H0 H : Hp) (o : Option VV) (l : Sl) : Prop := match l with
  | .un => True
  | .sh d => ∃ v, o = some v ∧ DR K P F v d
  | .ow d => ∃ a, o = some (.ref a) ∧ F a = none ∧ P ≠ some a ∧ OwR K P F H a d

/-- the heap has grown: the settled part too, by new objects alone -/
structure Grow (P : Option Addr) (F H F' H' : Hp) : Prop where
  ff : Same F F'
  hh : ∀ b o, H b = some o → P = some b ∨ H' b = some o
  fh : Same F' H'
  nf : ∀ b, F' b ≠ none → F b ≠ none ∨ H b = none

/-- heaps alone: from the entry F0, H0 to F, H; the pot -/
structure HR (P : Option Addr) (F0 H0 F H : Hp) (pt : Option (Int × Int)) : Prop where
  g : Grow P F0 H0 F H
  pot : ∀ x y, pt = some (x, y) → ∃ p, P = some p ∧ F p = none ∧ H p = some (.lst [.int x, .int y])
  pn : ∀ p, P = some p → ∃ x y, pt = some (x, y)
structure SR (K : PySem.W.Frag) (P : Option Addr) (F0 H0 F : Hp) (σ : St) (H : Hp) (s : S) : Prop where
  hr : HR P F0 H0 F H s.pot
  len : σ.length = s.sl.length
  sl : ∀ (i : Nat) o l, σ[i]? = some o → s.sl[i]? = some l → SlR K P F H0 H o l
  dist : ∀ (i j : Nat) a d d', σ[i]? = some (some (.ref a)) → s.sl[i]? = some (.ow d) → σ[j]? = some (some (.ref a)) → s.sl[j]? = some (.ow d') → i = j
  new : ∀ (i : Nat) a d, σ[i]? = some (some (.ref a)) → s.sl[i]? = some (.ow d) → H0 a = none

section
variable {K : PySem.W.Frag} {P Q : Option Addr} {F F0 F' F2 H0 H H' H2 : Hp} {σ : St} {s : S}
theorem Grow.refl (h : Same F H) : Grow Q F H F H := ⟨Same.refl _, fun _ _ e => .inr e, h, fun _ e => .inl e⟩
theorem Grow.trans (a : Grow Q F H F' H') (b : Grow Q F' H' F2 H2) (hp : ∀ p, Q = some p → F2 p = none) : Grow Q F H F2 H2 := by
  refine ⟨a.ff.trans b.ff, fun c o e => ?_, b.fh, fun c e => ?_⟩
  · rcases a.hh c o e with q | q
    · exact .inl q
    · exact b.hh c o q
  · rcases b.nf c e with q | q
    · exact a.nf c q
    · cases h : H c with
      | none => exact .inr rfl
      | some o =>
        rcases a.hh c o h with z | z
        · exact absurd (hp c z) e
        · rw [z] at q
          cases q
theorem Grow.pt (a : Grow none F H F' H') : Grow Q F H F' H' := ⟨a.ff, fun b o e => (a.hh b o e).elim (fun z => nomatch z) .inr, a.fh, a.nf⟩
theorem Grow.same (a : Grow none F H F' H') : Same H H' := fun b o e => (a.hh b o e).elim (fun z => nomatch z) id
theorem Grow.upd {p : Addr} {o : HO} (h : Same F H) (n : H p = none) : Grow none F H (upd F p o) (upd H p o) := by
  refine ⟨fun b u e => ?_, fun b u e => .inr ?_, fun b u e => ?_, fun b e => ?_⟩
  · rw [upd_ne (ne_of_none (h _ _ e) n)]
    exact e
  · rw [upd_ne (ne_of_none e n)]
    exact e
  · by_cases hb : b = p
    · subst hb
      rw [upd_same] at e ⊢
      exact e
    · rw [upd_ne hb] at e ⊢
      exact h _ _ e
  · by_cases hb : b = p
    · rw [hb]
      exact .inr n
    · rw [upd_ne hb] at e
      exact .inl e
theorem OwR.there {a : Addr} {d : D} (h : OwR K P F H a d) : ∃ o, H a = some o := by
  cases d with
  | lst ds =>
    obtain ⟨vs, e, _⟩ := h
    exact ⟨_, e⟩
  | ins C ns ds =>
    obtain ⟨dx, fs, e, _⟩ := h
    exact ⟨_, e⟩
  | _ => exact (show False from h).elim
theorem OwR.mono {a : Addr} {d : D} (h : OwR K P F H a d) (ff : Same F F') (e : ∀ o, H a = some o → H' a = some o) : OwR K P F' H' a d := by
  cases d with
  | lst ds =>
    obtain ⟨vs, q, r⟩ := h
    exact ⟨vs, e _ q, r.mono ff⟩
  | ins C ns ds =>
    obtain ⟨dx, fs, q, n, r⟩ := h
    exact ⟨dx, fs, e _ q, n, r.mono ff⟩
  | _ => exact (show False from h).elim
/-- heaps grow by an expression -/
theorem HR.grow {pt : Option (Int × Int)} (h : HR P F0 H0 F H pt) (g : Grow none F H F' H') : HR P F0 H0 F' H' pt := by
  have hp : ∀ x y, pt = some (x, y) → ∃ p, P = some p ∧ F' p = none ∧ H' p = some (.lst [.int x, .int y]) := fun x y e => by
    obtain ⟨p, e1, e2, e3⟩ := h.pot x y e
    refine ⟨p, e1, ?_, g.same _ _ e3⟩
    cases q : F' p with
    | none => rfl
    | some o =>
      rcases g.nf p (by rw [q]; exact fun z => nomatch z) with z | z
      · exact absurd e2 z
      · rw [e3] at z
        cases z
  refine ⟨h.g.trans g.pt fun p e => ?_, hp, h.pn⟩
  obtain ⟨x, y, q⟩ := h.pn p e
  obtain ⟨p', e1, e2, _⟩ := hp x y q
  rw [e] at e1
  cases e1
  exact e2
theorem HR.sub {pt : Option (Int × Int)} (h : HR P F0 H0 F H pt) : Same F H := h.g.fh
theorem HR.free {pt : Option (Int × Int)} {a : Addr} (h : HR P F0 H0 F H pt) (n : H a = none) : H0 a = none ∧ P ≠ some a ∧ F a = none := by
  have hp : P ≠ some a := fun e => by
    obtain ⟨x, y, q⟩ := h.pn a e
    obtain ⟨p', e1, _, e3⟩ := h.pot x y q
    rw [e] at e1
    cases e1
    rw [n] at e3
    cases e3
  refine ⟨?_, hp, h.sub.free n⟩
  cases q : H0 a with
  | none => rfl
  | some o =>
    rcases h.g.hh a o q with z | z
    · exact absurd z hp
    · rw [n] at z
      cases z
theorem HR.trans {F2 H2 : Hp} {pt pt' : Option (Int × Int)} (h : HR P F0 H0 F H pt) (g : HR P F H F2 H2 pt') : HR P F0 H0 F2 H2 pt' := by
  refine ⟨h.g.trans g.g fun p e => ?_, g.pot, g.pn⟩
  obtain ⟨x, y, q⟩ := g.pn p e
  obtain ⟨p', e1, e2, _⟩ := g.pot x y q
  rw [e] at e1
  cases e1
  exact e2
theorem HR.refl {pt : Option (Int × Int)} (h : HR P F0 H0 F H pt) : HR P F H F H pt := ⟨.refl h.sub, h.pot, h.pn⟩
theorem Grow.updH {p : Addr} {o : HO} (h : Same F H) (n : H p = none) : Grow none F H F (L2.upd H p o) := by
  refine ⟨Same.refl _, fun b u e => .inr ?_, fun b u e => ?_, fun b e => .inl e⟩
  · rw [upd_ne (ne_of_none e n)]
    exact e
  · have := h _ _ e
    rw [upd_ne (ne_of_none this n)]
    exact this
theorem SR.grow (h : SR K P F0 H0 F σ H s) (g : Grow none F H F' H') : SR K P F0 H0 F' σ H' s := by
  refine ⟨h.hr.grow g, h.len, fun i o l e1 e2 => ?_, h.dist, h.new⟩
  have q := h.sl i o l e1 e2
  cases l with
  | un => exact True.intro
  | sh d =>
    obtain ⟨v, ev, r⟩ := q
    exact ⟨v, ev, r.mono g.ff⟩
  | ow d =>
    obtain ⟨a, ev, fa, pa, r⟩ := q
    obtain ⟨u, hu⟩ := r.there
    refine ⟨a, ev, ?_, pa, r.mono g.ff fun o z => g.same _ _ z⟩
    cases q : F' a with
    | none => rfl
    | some o =>
      rcases g.nf a (by rw [q]; exact fun z => nomatch z) with z | z
      · exact absurd fa z
      · rw [hu] at z
        cases z
theorem SR.call {pt : Option (Int × Int)} (h : SR K P F0 H0 F σ H s) (g : HR P F H F' H' pt) : SR K P F0 H0 F' σ H' { s with pot := pt } := by
  refine ⟨h.hr.trans g, h.len, fun i o l e1 e2 => ?_, h.dist, h.new⟩
  have q := h.sl i o l e1 e2
  cases l with
  | un => exact True.intro
  | sh d =>
    obtain ⟨v, ev, r⟩ := q
    exact ⟨v, ev, r.mono g.g.ff⟩
  | ow d =>
    obtain ⟨a, ev, fa, pa, r⟩ := q
    obtain ⟨u, hu⟩ := r.there
    refine ⟨a, ev, ?_, pa, r.mono g.g.ff fun o z => (g.g.hh a o z).elim (fun q => absurd q pa) id⟩
    cases q : F' a with
    | none => rfl
    | some o =>
      rcases g.g.nf a (by rw [q]; exact fun z => nomatch z) with z | z
      · exact absurd fa z
      · rw [hu] at z
        cases z
end

/-! ### borrowed values; the judgements -/
/-- d is what v holds now: settled, or an owned object -/
def DB (K : PySem.W.Frag) (P : Option Addr) (F H : Hp) (v : VV) (d : D) : Prop := DR K P F v d ∨ ∃ a, v = .ref a ∧ P ≠ some a ∧ OwR K P F H a d
def NoOw (σ : St) (s : S) (a : Addr) : Prop := ∀ (i : Nat) d, s.sl[i]? = some (.ow d) → σ[i]? ≠ some (some (.ref a))
/-- behind an expression: owned slots stay or are settled -/
structure Ex (P : Option Addr) (σ : St) (F H : Hp) (s : S) (F' H' : Hp) (s' : S) : Prop where
  ff : Same F F'
  hh : ∀ b o, H b = some o → P = some b ∨ H' b = some o
  ow : ∀ (i : Nat) d, s'.sl[i]? = some (.ow d) → s.sl[i]? = some (.ow d)
  nf : ∀ b, P ≠ some b → H b ≠ none → F b = none → NoOw σ s b → F' b = none
section
variable {K : PySem.W.Frag} {P : Option Addr} {F F' F2 H H' H2 : Hp} {s s' s2 : S} {σ : St}
theorem Ex.refl : Ex P σ F H s F H s := ⟨Same.refl _, fun _ _ e => .inr e, fun _ _ e => e, fun _ _ _ e _ => e⟩
theorem Ex.trans (a : Ex P σ F H s F' H' s') (b : Ex P σ F' H' s' F2 H2 s2) : Ex P σ F H s F2 H2 s2 := ⟨a.ff.trans b.ff, fun c o e => (a.hh c o e).elim .inl (b.hh c o), fun i d e => a.ow i d (b.ow i d e), fun c hp hh hf no => by
  refine b.nf c hp ?_ (a.nf c hp hh hf no) fun i d e => no i d (a.ow i d e)
  cases q : H c with
  | none => exact absurd q hh
  | some o =>
    rcases a.hh c o q with z | z
    · exact absurd z hp
    · rw [z]
      exact fun z => nomatch z⟩
theorem Grow.ex (a : Grow none F H F' H') : Ex P σ F H s F' H' s := ⟨a.ff, fun b o e => .inr (a.same b o e), fun _ _ e => e, fun b _ hh hf _ => by
  cases q : F' b with
  | none => rfl
  | some o =>
    rcases a.nf b (by rw [q]; exact fun z => nomatch z) with z | z
    · exact absurd hf z
    · exact absurd z hh⟩
theorem DB.mono {v : VV} {d : D} (h : DB K P F H v d) (e : Ex P σ F H s F' H' s') : DB K P F' H' v d := by
  rcases h with h | ⟨a, ev, pa, h⟩
  · exact .inl (h.mono e.ff)
  · exact .inr ⟨a, ev, pa, h.mono e.ff fun o z => (e.hh a o z).elim (fun q => absurd q pa) id⟩
theorem DB.lst {v : VV} {ds : List D} (h : DB K P F H v (.lst ds)) (fh : Same F H) : ∃ a vs, v = .ref a ∧ H a = some (.lst vs) ∧ DRs K P F vs ds := by
  rcases h with h | ⟨a, ev, _, vs, e, r⟩
  · cases h with
    | lst h r => exact ⟨_, _, rfl, fh _ _ h, r⟩
  · exact ⟨a, vs, ev, e, r⟩
theorem DB.tup {v : VV} {ds : List D} (h : DB K P F H v (.tup ds)) (fh : Same F H) : ∃ a vs, v = .ref a ∧ SqT K H a vs ∧ DRs K P F vs ds := by
  rcases h with h | ⟨a, ev, _, q⟩
  · cases h with
    | tup h r => exact ⟨_, _, rfl, same_sqT fh h, r⟩
  · exact (show False from q).elim
theorem DB.ins {v : VV} {C : Addr} {ns : List Str} {ds : List D} (h : DB K P F H v (.ins C ns ds)) (fh : Same F H) : ∃ a dx fs, v = .ref a ∧ H a = some (.ins C dx fs) ∧ fs.map (·.1) = ns ∧ DRs K P F (fs.map (·.2)) ds := by
  rcases h with h | ⟨a, ev, _, dx, fs, e, n, r⟩
  · cases h with
    | ins h e r => exact ⟨_, _, _, rfl, fh _ _ h, e, r⟩
  · exact ⟨a, dx, fs, ev, e, n, r⟩
theorem DB.scr {v : VV} {ns : List Int} (h : DB K P F H v (.scr ns)) (fh : Same F H) : ∃ a, v = .ref a ∧ SqL K H a (ns.map V.int) := by
  rcases h with h | ⟨a, ev, _, q⟩
  · cases h with
    | scr h => exact ⟨_, rfl, fh.seq h.sq⟩
  · exact (show False from q).elim
theorem DB.int {v : VV} {i : Int} (h : DB K P F H v (.int i)) : v = .int i := by
  rcases h with h | ⟨a, ev, _, q⟩
  · cases h; rfl
  · exact (show False from q).elim
theorem DB.bl {v : VV} {b : Bool} (h : DB K P F H v (.bl b)) : v = .bl b := by
  rcases h with h | ⟨a, ev, _, q⟩
  · cases h; rfl
  · exact (show False from q).elim
theorem DB.str {v : VV} {b : Str} (h : DB K P F H v (.str b)) : v = .str b := by
  rcases h with h | ⟨a, ev, _, q⟩
  · cases h; rfl
  · exact (show False from q).elim
theorem DB.non {v : VV} (h : DB K P F H v .non) : v = .non := by
  rcases h with h | ⟨a, ev, _, q⟩
  · cases h; rfl
  · exact (show False from q).elim
theorem DB.pot {v : VV} (h : DB K P F H v .pot) : ∃ p, P = some p ∧ v = .ref p := by
  rcases h with h | ⟨a, ev, _, q⟩
  · cases h with
    | pot h => exact ⟨_, h, rfl⟩
  · exact (show False from q).elim
end
abbrev Sem1 (α : Type) := S → Option (α × S)
section
variable (K : PySem.W.Frag) (P : Option Addr) (F0 H0 : Hp)
/-- an expression means f -/
def tV (f : Sem1 D) : TE := fun σ H Q => ∃ F s d s', SR K P F0 H0 F σ H s ∧ f s = some (d, s') ∧ ∀ v F' H', Ex P σ F H s F' H' s' → SR K P F0 H0 F' σ H' s' → DR K P F' v d → Q v H'
/-- .. borrowed -/
def tVB (f : Sem1 D) : TE := fun σ H Q => ∃ F s d s', SR K P F0 H0 F σ H s ∧ f s = some (d, s') ∧ ∀ v F' H', Ex P σ F H s F' H' s' → SR K P F0 H0 F' σ H' s' → DB K P F' H' v d → Q v H'
def tT (f : Sem1 Bool) : TT := fun σ H Q => ∃ F s b s', SR K P F0 H0 F σ H s ∧ f s = some (b, s') ∧ ∀ F' H', Ex P σ F H s F' H' s' → SR K P F0 H0 F' σ H' s' → Q b H'
def tA (f : Sem1 (List D)) : TA := fun σ H Q => ∃ F s ds s', SR K P F0 H0 F σ H s ∧ f s = some (ds, s') ∧ ∀ vs F' H', Ex P σ F H s F' H' s' → SR K P F0 H0 F' σ H' s' → DRs K P F' vs ds → Q vs H'
inductive Fl where
  | nx (s : S) | rt (d : D) (pt : Option (Int × Int))
def Post (D : Ends) (F : Hp) : Fl → Prop
  | .nx s' => ∀ σ' F' H', Same F F' → SR K P F0 H0 F' σ' H' s' → D.nx σ' H'
  | .rt d pt => ∀ v F' H', HR P F0 H0 F' H' pt → DR K P F' v d → D.rt v H'
def tS (g : S → Option Fl) : TS := fun D σ H => ∃ F s r, SR K P F0 H0 F σ H s ∧ g s = some r ∧ Post K P F0 H0 D F r
end
theorem Post.mono {K : PySem.W.Frag} {P : Option Addr} {F0 H0 F F1 : Hp} {D : Ends} {r : Fl} (h : Post K P F0 H0 D F r) (f : Same F F1) : Post K P F0 H0 D F1 r := by
  cases r with
  | nx s2 => exact fun σ2 F2 H2 f2 r2 => h σ2 F2 H2 (f.trans f2) r2
  | rt d pt => exact h
/-- another wish behind the next statement -/
theorem Post.to {K : PySem.W.Frag} {P : Option Addr} {F0 H0 F : Hp} {D D' : Ends} {r : Fl} (h : Post K P F0 H0 D F r) (hr : D'.rt = D.rt) (hn : D'.nx = D.nx) : Post K P F0 H0 D' F r := by
  cases r with
  | nx s2 => rw [Post, hn]; exact h
  | rt d pt => rw [Post, hr]; exact h
/-- what follows from a reading -/
theorem PE.con {X : Cx} {e : Expr} {t t' : TE} (h : PE X e t) (i : ∀ σ H Q, t' σ H Q → t σ H Q) : PE X e t' := ⟨fun pins s σ H Q I q => h.run pins s σ H Q I (i _ _ _ q)⟩
theorem PT.con {X : Cx} {e : Expr} {t t' : TT} (h : PT X e t) (i : ∀ σ H Q, t' σ H Q → t σ H Q) : PT X e t' := ⟨fun pins s σ H Q I q => h.run pins s σ H Q I (i _ _ _ q)⟩
theorem PW.con {X : Cx} {e : Expr} {t t' : TT} (h : PW X e t) (i : ∀ σ H Q, t' σ H Q → t σ H Q) : PW X e t' := ⟨fun w pins s σ H Q I q => h.run w pins s σ H Q I (i _ _ _ q)⟩
theorem PA.con {X : Cx} {es : List Expr} {t t' : TA} (h : PA X es t) (i : ∀ σ H Q, t' σ H Q → t σ H Q) : PA X es t' := ⟨fun p pins s σ H Q I q => h.run p pins s σ H Q I (i _ _ _ q)⟩
theorem PS.con {X : Cx} {st : Stmt} {t t' : TS} (h : PS X st t) (i : ∀ D σ H, t' D σ H → t D σ H) : PS X st t' := ⟨fun pins s σ H D I q => h.run pins s σ H D I (i _ _ _ q)⟩
theorem PSs.con {X : Cx} {st : List Stmt} {t t' : TS} (h : PSs X st t) (i : ∀ D σ H, t' D σ H → t D σ H) : PSs X st t' := ⟨fun pins s σ H D I q => h.run pins s σ H D I (i _ _ _ q)⟩
end VS
end
section
set_option Elab.async false
set_option linter.all false
set_option maxRecDepth 100000
set_option maxHeartbeats 4000000
namespace VS
open PySem PySem.Spec PyProof.Rows L2
/-! ### slots -/
def eVar (i : Nat) : Sem1 D := fun s => match s.sl[i]? with
  | some (.sh d) => some (d, s)
  | some (.ow d) => some (d, { s with sl := s.sl.set i (.sh d) })
  | _ => none
def eVarB (i : Nat) : Sem1 D := fun s => match s.sl[i]? with
  | some (.sh d) => some (d, s)
  | some (.ow d) => some (d, s)
  | _ => none
section
variable {K : PySem.W.Frag} {P : Option Addr} {F F0 F' H0 H H' : Hp} {σ : St} {s : S}
theorem SR.there (h : SR K P F0 H0 F σ H s) {i : Nat} {l : Sl} (e : s.sl[i]? = some l) : ∃ o, σ[i]? = some o ∧ SlR K P F H0 H o l := by
  have hi : i < σ.length := by
    rw [h.len]
    exact (List.getElem?_eq_some_iff.mp e).1
  exact ⟨σ[i], List.getElem?_eq_getElem hi, h.sl i _ l (List.getElem?_eq_getElem hi) e⟩
/-- a slot gets a settled value -/
theorem SR.put (h : SR K P F0 H0 F σ H s) {i : Nat} {v : VV} {d : D} (r : DR K P F v d) : SR K P F0 H0 F (σ.set i (some v)) H { s with sl := s.sl.set i (.sh d) } := by
  have key : ∀ {j : Nat} {a : Addr} {d' : D}, (s.sl.set i (.sh d))[j]? = some (.ow d') → j ≠ i ∧ s.sl[j]? = some (.ow d') := fun {j a d'} e => by
    by_cases hj : i = j
    · subst hj
      rw [List.getElem?_set] at e
      split at e
      · split at e <;> simp at e
      · contradiction
    · rw [List.getElem?_set_ne hj] at e
      exact ⟨Ne.symm hj, e⟩
  refine ⟨h.hr, by simp [h.len], fun j o l e1 e2 => ?_, fun j k a d1 d2 e1 e2 e3 e4 => ?_, fun j a d' e1 e2 => ?_⟩
  · by_cases hj : i = j
    · subst hj
      have h1 : i < σ.length := by
        have := (List.getElem?_eq_some_iff.mp e1).1
        simpa using this
      have h2 : i < s.sl.length := by rw [← h.len]; exact h1
      rw [List.getElem?_set_self h1] at e1
      rw [List.getElem?_set_self h2] at e2
      cases e1
      cases e2
      exact ⟨v, rfl, r⟩
    · rw [List.getElem?_set_ne hj] at e1 e2
      exact h.sl j o l e1 e2
  · obtain ⟨n1, q1⟩ := key (a := a) e2
    obtain ⟨n2, q2⟩ := key (a := a) e4
    rw [List.getElem?_set_ne (Ne.symm n1)] at e1
    rw [List.getElem?_set_ne (Ne.symm n2)] at e3
    exact h.dist j k a d1 d2 e1 q1 e3 q2
  · obtain ⟨n1, q1⟩ := key (a := a) e2
    rw [List.getElem?_set_ne (Ne.symm n1)] at e1
    exact h.new j a d' e1 q1
theorem set_same {α : Type} {l : List α} {i : Nat} {x : α} (e : l[i]? = some x) : l.set i x = l := by
  apply List.ext_getElem?
  intro j
  by_cases hj : i = j
  · subst hj
    rw [List.getElem?_set_self (List.getElem?_eq_some_iff.mp e).1, e]
  · rw [List.getElem?_set_ne hj]
/-- an owned slot is settled -/
theorem SR.settle (h : SR K P F0 H0 F σ H s) {i : Nat} {d : D} (e : s.sl[i]? = some (.ow d)) : ∃ v F', σ[i]? = some (some v) ∧ Ex P σ F H s F' H { s with sl := s.sl.set i (.sh d) } ∧ SR K P F0 H0 F' σ H { s with sl := s.sl.set i (.sh d) } ∧ DR K P F' v d := by
  obtain ⟨o, eo, a, ea, fa, pa, r⟩ := h.there e
  subst ea
  obtain ⟨u, hu⟩ := r.there
  have hn := h.new i a d eo e
  have ff : Same F (upd F a u) := fun b z q => by
    rw [upd_ne (ne_of_none q fa)]
    exact q
  have dr : DR K P (upd F a u) (.ref a) d := by
    cases d with
    | lst ds =>
      obtain ⟨vs, q, r⟩ := r
      rw [hu] at q
      cases q
      exact .lst upd_same (r.mono ff)
    | ins C ns ds =>
      obtain ⟨dx, fs, q, n, r⟩ := r
      rw [hu] at q
      cases q
      exact .ins upd_same n (r.mono ff)
    | _ => exact (show False from r).elim
  have fh : Same (upd F a u) H := fun b z q => by
    by_cases hb : b = a
    · subst hb
      rw [upd_same] at q
      cases q
      exact hu
    · rw [upd_ne hb] at q
      exact h.hr.sub b z q
  refine ⟨.ref a, upd F a u, eo, ⟨ff, fun _ _ q => .inr q, fun j d' q => ?_, fun b _ _ hf no => by rw [upd_ne (fun z => no i d e (by rw [z]; exact eo))]; exact hf⟩, ?_, dr⟩
  · by_cases hj : i = j
    · subst hj
      rw [List.getElem?_set_self (List.getElem?_eq_some_iff.mp e).1] at q
      cases q
    · rw [List.getElem?_set_ne hj] at q
      exact q
  have base : SR K P F0 H0 (upd F a u) σ H { s with sl := s.sl.set i .un } := by
    refine ⟨⟨⟨h.hr.g.ff.trans ff, h.hr.g.hh, fh, fun b q => ?_⟩, fun x y q => ?_, h.hr.pn⟩, by simp [h.len], fun j o l e1 e2 => ?_, fun j k b d1 d2 e1 e2 e3 e4 => ?_, fun j b d' e1 e2 => ?_⟩
    · by_cases hb : b = a
      · rw [hb]
        exact .inr hn
      · rw [upd_ne hb] at q
        exact h.hr.g.nf b q
    · obtain ⟨p, e1, e2, e3⟩ := h.hr.pot x y q
      refine ⟨p, e1, ?_, e3⟩
      rw [upd_ne (fun z => pa (by rw [e1, z]))]
      exact e2
    · by_cases hj : i = j
      · subst hj
        have : i < s.sl.length := (List.getElem?_eq_some_iff.mp e).1
        rw [List.getElem?_set_self this] at e2
        cases e2
        exact True.intro
      · rw [List.getElem?_set_ne hj] at e2
        have q := h.sl j o l e1 e2
        cases l with
        | un => exact True.intro
        | sh d =>
          obtain ⟨v, ev, r⟩ := q
          exact ⟨v, ev, r.mono ff⟩
        | ow d' =>
          obtain ⟨b, ev, fb, pb, rb⟩ := q
          subst ev
          refine ⟨b, rfl, ?_, pb, rb.mono ff fun _ z => z⟩
          rw [upd_ne (fun z => hj (h.dist i j a d d' eo e (by rw [← z]; exact e1) e2))]
          exact fb
    · have k1 : i ≠ j := fun z => by
        subst z
        rw [List.getElem?_set_self (List.getElem?_eq_some_iff.mp e).1] at e2
        cases e2
      have k2 : i ≠ k := fun z => by
        subst z
        rw [List.getElem?_set_self (List.getElem?_eq_some_iff.mp e).1] at e4
        cases e4
      rw [List.getElem?_set_ne k1] at e2
      rw [List.getElem?_set_ne k2] at e4
      exact h.dist j k b d1 d2 e1 e2 e3 e4
    · have k1 : i ≠ j := fun z => by
        subst z
        rw [List.getElem?_set_self (List.getElem?_eq_some_iff.mp e).1] at e2
        cases e2
      rw [List.getElem?_set_ne k1] at e2
      exact h.new j b d' e1 e2
  have q := base.put (i := i) dr
  rw [set_same eo] at q
  simpa using q
end

/-! ### expressions -/
section
variable {X : Cx} {P : Option Addr} {F0 H0 : Hp}
theorem tV_B {f : Sem1 D} {e : Expr} (h : PE X e (tV X.K P F0 H0 f)) : PE X e (tVB X.K P F0 H0 f) := PE.con h fun σ H Q ⟨F, s, d, s', r, e, q⟩ => ⟨F, s, d, s', r, e, fun v F' H' a b c => q v F' H' a b (.inl c)⟩
theorem v_var (i : Nat) {x : Str} {pos : Pos} (hN : X.N[i]? = some x := by rfl) (hv : Vis X.env.scope x := by first | exact Or.inl rfl | exact Or.inr (Or.inl rfl) | exact Or.inr (Or.inr rfl)) (hd : (x == ("__debug__" : Str)) = false := by decide)
    (hcd : (x == ("__classdict__" : Str)) = false := by decide) : PE X (.Name x pos) (tV X.K P F0 H0 (eVar i)) := by
  refine PE.con (pe_var hN hv hd hcd) fun σ H Q ⟨F, s, d, s', r, e, q⟩ => ?_
  unfold eVar at e
  split at e
  · rename_i d' el
    cases e
    obtain ⟨o, eo, v, ev, dr⟩ := r.there el
    subst ev
    exact ⟨v, eo, q v F H .refl r dr⟩
  · rename_i d' el
    cases e
    obtain ⟨v, F', eo, x, r', dr⟩ := r.settle el
    exact ⟨v, eo, q v F' H x r' dr⟩
  · cases e
theorem v_varB (i : Nat) {x : Str} {pos : Pos} (hN : X.N[i]? = some x := by rfl) (hv : Vis X.env.scope x := by first | exact Or.inl rfl | exact Or.inr (Or.inl rfl) | exact Or.inr (Or.inr rfl)) (hd : (x == ("__debug__" : Str)) = false := by decide)
    (hcd : (x == ("__classdict__" : Str)) = false := by decide) : PE X (.Name x pos) (tVB X.K P F0 H0 (eVarB i)) := by
  refine PE.con (pe_var hN hv hd hcd) fun σ H Q ⟨F, s, d, s', r, e, q⟩ => ?_
  unfold eVarB at e
  split at e
  · rename_i d' el
    cases e
    obtain ⟨o, eo, v, ev, dr⟩ := r.there el
    subst ev
    exact ⟨v, eo, q v F H .refl r (.inl dr)⟩
  · rename_i d' el
    cases e
    obtain ⟨o, eo, a, ev, fa, pa, w⟩ := r.there el
    subst ev
    exact ⟨.ref a, eo, q _ F H .refl r (.inr ⟨a, rfl, pa, w⟩)⟩
  · cases e
def eC (d : D) : Sem1 D := fun s => some (d, s)
theorem v_int {i j pos} : PE X (.Constant (.int i) j pos) (tV X.K P F0 H0 (eC (.int i))) := PE.con pe_int fun σ H Q ⟨F, s, d, s', r, e, q⟩ => by
  cases e
  exact q _ F H .refl r (.int i)
theorem v_bl {b j pos} : PE X (.Constant (.bool b) j pos) (tV X.K P F0 H0 (eC (.bl b))) := PE.con pe_bl fun σ H Q ⟨F, s, d, s', r, e, q⟩ => by
  cases e
  exact q _ F H .refl r (.bl b)
theorem v_non {j pos} : PE X (.Constant .none j pos) (tV X.K P F0 H0 (eC .non)) := PE.con pe_non fun σ H Q ⟨F, s, d, s', r, e, q⟩ => by
  cases e
  exact q _ F H .refl r .non
theorem v_str {z j pos} : PE X (.Constant (.str z) j pos) (tV X.K P F0 H0 (eC (.str z))) := PE.con pe_str fun σ H Q ⟨F, s, d, s', r, e, q⟩ => by
  cases e
  exact q _ F H .refl r (.str z)
/-- a module's int -/
theorem v_gint {x : Str} {n : Int} {u : Value} {pos : Pos} (hg : Gl X x) (hm : X.mg x = some u) (r : RelV (.int n) u) (hd : (x == ("__debug__" : Str)) = false := by decide) : PE X (.Name x pos) (tV X.K P F0 H0 (eC (.int n))) :=
  PE.con (pe_glob hg hm r hd) fun σ H Q ⟨F, s, d, s', r, e, q⟩ => by
    cases e
    exact q _ F H .refl r (.int n)
/-! ### argument lists -/
def aNil : Sem1 (List D) := fun s => some ([], s)
def aCons (f : Sem1 D) (g : Sem1 (List D)) : Sem1 (List D) := fun s => match f s with
  | some (d, s1) => match g s1 with
    | some (ds, s2) => some (d :: ds, s2)
    | none => none
  | none => none
theorem a_nil : PA X [] (tA X.K P F0 H0 aNil) := PA.con pa_nil fun σ H Q ⟨F, s, d, s', r, e, q⟩ => by
  cases e
  exact q _ F H .refl r .nil
theorem a_cons {f : Sem1 D} {g : Sem1 (List D)} {e : Expr} {es : List Expr} (hf : PE X e (tV X.K P F0 H0 f)) (hg : PA X es (tA X.K P F0 H0 g)) (hs : starEach (e :: es) X.env = (false, eval e X.env) :: starEach es X.env := by rfl) : PA X (e :: es) (tA X.K P F0 H0 (aCons f g)) := by
  refine PA.con (pa_cons hf hg hs) fun σ H Q ⟨F, s, ds, s', r, e, q⟩ => ?_
  unfold aCons at e
  split at e
  · rename_i d s1 e1
    split at e
    · rename_i es s2 e2
      cases e
      refine ⟨F, s, d, s1, r, e1, fun v F1 H1 x1 r1 d1 => ⟨F1, s1, es, s', r1, e2, fun vs F2 H2 x2 r2 d2 => ?_⟩⟩
      exact q _ F2 H2 (x1.trans x2) r2 (.cons (d1.mono x2.ff) d2)
    · cases e
  · cases e
/-! ### two operands -/
abbrev G2 := D → D → Option D
def OpV (K : PySem.W.Frag) (P : Option Addr) (r : R2) (g : G2) : Prop := ∀ (F H : Hp) (x y : VV) (d e c : D) (Q : VK), Same F H → DB K P F H x d → DB K P F H y e → g d e = some c → (∀ v F' H', Grow none F H F' H' → DR K P F' v c → Q v H') → r x y H Q
def e2 (g : G2) (f f' : Sem1 D) : Sem1 D := fun s => match f s with
  | some (d, s1) => match f' s1 with
    | some (e, s2) => match g d e with
      | some c => some (c, s2)
      | none => none
    | none => none
  | none => none
theorem tOp_of {r : R2} {g : G2} {f f' : Sem1 D} (hr : OpV X.K P r g) (σ : St) (H : Hp) (Q : VK) (h : tV X.K P F0 H0 (e2 g f f') σ H Q) : tOp r (tVB X.K P F0 H0 f) (tVB X.K P F0 H0 f') σ H Q := by
  obtain ⟨F, s, c, s', r0, e, q⟩ := h
  unfold e2 at e
  split at e
  · rename_i d s1 e1
    split at e
    · rename_i d' s2 e2
      split at e
      · rename_i c' e3
        cases e
        refine ⟨F, s, d, s1, r0, e1, fun v F1 H1 x1 r1 d1 => ⟨F1, s1, d', s', r1, e2, fun v2 F2 H2 x2 r2 d2 => ?_⟩⟩
        exact hr F2 H2 v v2 d d' c Q r2.hr.sub (d1.mono x2) d2 e3 fun v3 F3 H3 g3 d3 => q v3 F3 H3 ((x1.trans x2).trans g3.ex) (r2.grow g3) d3
      · cases e
    · cases e
  · cases e
theorem v_bin {op : Operator} {a b : Expr} {r : R2} {g : G2} {f f' : Sem1 D} {pos : Pos} (ho : OpR X (binaryOp op) r) (hr : OpV X.K P r g) (ha : PE X a (tVB X.K P F0 H0 f)) (hb : PE X b (tVB X.K P F0 H0 f')) : PE X (.BinOp a op b pos) (tV X.K P F0 H0 (e2 g f f')) :=
  PE.con (pe_op ho ha hb) fun σ H Q h => tOp_of hr σ H Q h
theorem v_cmp {op : CmpOp} {a b : Expr} {r : R2} {g : G2} {f f' : Sem1 D} {pos : Pos} (ho : OpR X (compareOp op) r) (hr : OpV X.K P r g) (ha : PE X a (tVB X.K P F0 H0 f)) (hb : PE X b (tVB X.K P F0 H0 f')) (hm : behindInMarks op b = false := by first | exact nomark _ | rfl) : PE X (.Compare a [op] [b] pos) (tV X.K P F0 H0 (e2 g f f')) :=
  PE.con (pe_cmpR ho ha hb hm) fun σ H Q h => tOp_of hr σ H Q h
def eT (f : Sem1 D) : Sem1 Bool := fun s => match f s with
  | some (.bl b, s') => some (b, s')
  | _ => none
theorem tT_of {t : TE} {f : Sem1 D} (h : ∀ σ H Q, tV X.K P F0 H0 f σ H Q → t σ H Q) (σ : St) (H : Hp) (Q : Bool → Hp → Prop) (w : tT X.K P F0 H0 (eT f) σ H Q) : t σ H fun x H' => ∃ k, x = .bl k ∧ Q k H' := by
  obtain ⟨F, s, b, s', r, e, q⟩ := w
  unfold eT at e
  split at e
  · rename_i b' s1 e1
    cases e
    refine h σ H _ ⟨F, s, .bl b, s', r, e1, fun v F' H' x r' d => ?_⟩
    cases d
    exact ⟨b, rfl, q F' H' x r'⟩
  · cases e
theorem v_cmpT {op : CmpOp} {a b : Expr} {r : R2} {g : G2} {f f' : Sem1 D} {pos : Pos} (ho : OpR X (compareOp op) r) (hr : OpV X.K P r g) (ha : PE X a (tVB X.K P F0 H0 f)) (hb : PE X b (tVB X.K P F0 H0 f')) (hm : behindInMarks op b = false := by first | exact nomark _ | rfl) : PT X (.Compare a [op] [b] pos) (tT X.K P F0 H0 (eT (e2 g f f'))) :=
  PT.con (pt_cmpR ho ha hb hm) fun σ H Q h => tT_of (fun σ H Q h => tOp_of hr σ H Q h) σ H Q h
/-- an expression whose value is a bool, as a test -/
theorem v_test {e : Expr} {f : Sem1 D} (h : PE X e (tV X.K P F0 H0 f)) (he : ∀ whole, isTrue e X.env whole = (do let v ← whole; standAt e.pos; holding [v] (truthy v)) := by intro _; rfl) : PT X e (tT X.K P F0 H0 (eT f)) :=
  PT.con (pt_val h he) fun σ H Q w => tT_of (fun _ _ _ z => z) σ H Q w
def eNotT (f : Sem1 Bool) : Sem1 Bool := fun s => match f s with
  | some (b, s') => some (!b, s')
  | none => none
theorem v_notT {a : Expr} {f : Sem1 Bool} {pos : Pos} (h : PT X a (tT X.K P F0 H0 f)) : PT X (.UnaryOp .Not a pos) (tT X.K P F0 H0 (eNotT f)) := by
  refine PT.con (pt_not h) fun σ H Q ⟨F, s, b, s', r, e, q⟩ => ?_
  unfold eNotT at e
  split at e
  · rename_i b' s1 e1
    cases e
    exact ⟨F, s, b', s', r, e1, fun F' H' x r' => q F' H' x r'⟩
  · cases e
def eAndT (f g : Sem1 Bool) : Sem1 Bool := fun s => match f s with
  | some (true, s1) => g s1
  | r => r
def eOrT (f g : Sem1 Bool) : Sem1 Bool := fun s => match f s with
  | some (false, s1) => g s1
  | r => r
theorem w_and1 {a : Expr} {f : Sem1 Bool} {pos : Pos} (h : PT X a (tT X.K P F0 H0 f)) : PW X (.BoolOp .And [a] pos) (tT X.K P F0 H0 f) := pw_and1 h
theorem w_or1 {a : Expr} {f : Sem1 Bool} {pos : Pos} (h : PT X a (tT X.K P F0 H0 f)) : PW X (.BoolOp .Or [a] pos) (tT X.K P F0 H0 f) := pw_or1 h
theorem w_and {a b : Expr} {rest : List Expr} {f g : Sem1 Bool} {pos : Pos} (h : PT X a (tT X.K P F0 H0 f)) (h2 : PW X (.BoolOp .And (b :: rest) pos) (tT X.K P F0 H0 g)) : PW X (.BoolOp .And (a :: b :: rest) pos) (tT X.K P F0 H0 (eAndT f g)) := by
  refine PW.con (pw_and h h2) fun σ H Q ⟨F, s, b, s', r, e, q⟩ => ?_
  unfold eAndT at e
  split at e
  · rename_i s1 e1
    refine ⟨F, s, true, s1, r, e1, fun F1 H1 x1 r1 => ?_⟩
    refine iteT ?_
    exact ⟨F1, s1, b, s', r1, e, fun F2 H2 x2 r2 => q F2 H2 (x1.trans x2) r2⟩
  · rename_i n1
    cases b with
    | true => exact absurd e (n1 s')
    | false =>
      refine ⟨F, s, false, s', r, e, fun F1 H1 x1 r1 => ?_⟩
      refine iteF ?_
      exact q F1 H1 x1 r1
theorem w_or {a b : Expr} {rest : List Expr} {f g : Sem1 Bool} {pos : Pos} (h : PT X a (tT X.K P F0 H0 f)) (h2 : PW X (.BoolOp .Or (b :: rest) pos) (tT X.K P F0 H0 g)) : PW X (.BoolOp .Or (a :: b :: rest) pos) (tT X.K P F0 H0 (eOrT f g)) := by
  refine PW.con (pw_or h h2) fun σ H Q ⟨F, s, b, s', r, e, q⟩ => ?_
  unfold eOrT at e
  split at e
  · rename_i s1 e1
    refine ⟨F, s, false, s1, r, e1, fun F1 H1 x1 r1 => ?_⟩
    refine iteF ?_
    exact ⟨F1, s1, b, s', r1, e, fun F2 H2 x2 r2 => q F2 H2 (x1.trans x2) r2⟩
  · rename_i n1
    cases b with
    | false => exact absurd e (n1 s')
    | true =>
      refine ⟨F, s, true, s', r, e, fun F1 H1 x1 r1 => ?_⟩
      refine iteT ?_
      exact q F1 H1 x1 r1
def eIf (t : Sem1 Bool) (f g : Sem1 D) : Sem1 D := fun s => match t s with
  | some (true, s1) => f s1
  | some (false, s1) => g s1
  | none => none
theorem v_ifE {c a b : Expr} {t : Sem1 Bool} {f g : Sem1 D} {pos : Pos} (hc : PT X c (tT X.K P F0 H0 t)) (ha : PE X a (tV X.K P F0 H0 f)) (hb : PE X b (tV X.K P F0 H0 g)) : PE X (.IfExp c a b pos) (tV X.K P F0 H0 (eIf t f g)) := by
  refine PE.con (pe_ifExp hc ha hb) fun σ H Q ⟨F, s, d, s', r, e, q⟩ => ?_
  unfold eIf at e
  split at e
  · rename_i s1 e1
    refine ⟨F, s, true, s1, r, e1, fun F1 H1 x1 r1 => ?_⟩
    refine iteT ?_
    exact ⟨F1, s1, d, s', r1, e, fun v F2 H2 x2 r2 => q v F2 H2 (x1.trans x2) r2⟩
  · rename_i s1 e1
    refine ⟨F, s, false, s1, r, e1, fun F1 H1 x1 r1 => ?_⟩
    refine iteF ?_
    exact ⟨F1, s1, d, s', r1, e, fun v F2 H2 x2 r2 => q v F2 H2 (x1.trans x2) r2⟩
  · cases e
/-- and, or as values (bools ahead of the last) -/
def eAnd (f g : Sem1 D) : Sem1 D := fun s => match f s with
  | some (.bl true, s1) => g s1
  | some (.bl false, s1) => some (.bl false, s1)
  | _ => none
def eOr (f g : Sem1 D) : Sem1 D := fun s => match f s with
  | some (.bl false, s1) => g s1
  | some (.bl true, s1) => some (.bl true, s1)
  | _ => none
def eNot (f : Sem1 D) : Sem1 D := fun s => match f s with
  | some (.bl b, s1) => some (.bl (!b), s1)
  | _ => none
theorem v_one {op} {a : Expr} {f : Sem1 D} {pos : Pos} (h : PE X a (tV X.K P F0 H0 f)) : PE X (.BoolOp op [a] pos) (tV X.K P F0 H0 f) := pe_one h
theorem v_and {a b : Expr} {rest : List Expr} {f g : Sem1 D} {pos : Pos} (ha : PE X a (tV X.K P F0 H0 f)) (hb : PE X (.BoolOp .And (b :: rest) pos) (tV X.K P F0 H0 g)) : PE X (.BoolOp .And (a :: b :: rest) pos) (tV X.K P F0 H0 (eAnd f g)) := by
  refine PE.con (pe_and ha hb) fun σ H Q ⟨F, s, d, s', r, e, q⟩ => ?_
  unfold eAnd at e
  split at e
  · rename_i s1 e1
    refine ⟨F, s, .bl true, s1, r, e1, fun v F1 H1 x1 r1 d1 => ?_⟩
    cases d1
    refine ⟨true, rfl, ?_⟩
    refine iteT ?_
    exact ⟨F1, s1, d, s', r1, e, fun v F2 H2 x2 r2 => q v F2 H2 (x1.trans x2) r2⟩
  · rename_i s1 e1
    cases e
    refine ⟨F, s, .bl false, s', r, e1, fun v F1 H1 x1 r1 d1 => ?_⟩
    cases d1
    refine ⟨false, rfl, ?_⟩
    refine iteF ?_
    exact q _ F1 H1 x1 r1 (.bl false)
  · cases e
theorem v_or {a b : Expr} {rest : List Expr} {f g : Sem1 D} {pos : Pos} (ha : PE X a (tV X.K P F0 H0 f)) (hb : PE X (.BoolOp .Or (b :: rest) pos) (tV X.K P F0 H0 g)) : PE X (.BoolOp .Or (a :: b :: rest) pos) (tV X.K P F0 H0 (eOr f g)) := by
  refine PE.con (pe_or ha hb) fun σ H Q ⟨F, s, d, s', r, e, q⟩ => ?_
  unfold eOr at e
  split at e
  · rename_i s1 e1
    refine ⟨F, s, .bl false, s1, r, e1, fun v F1 H1 x1 r1 d1 => ?_⟩
    cases d1
    refine ⟨false, rfl, ?_⟩
    refine iteF ?_
    exact ⟨F1, s1, d, s', r1, e, fun v F2 H2 x2 r2 => q v F2 H2 (x1.trans x2) r2⟩
  · rename_i s1 e1
    cases e
    refine ⟨F, s, .bl true, s', r, e1, fun v F1 H1 x1 r1 d1 => ?_⟩
    cases d1
    refine ⟨true, rfl, ?_⟩
    refine iteT ?_
    exact q _ F1 H1 x1 r1 (.bl true)
  · cases e
theorem v_not {a : Expr} {f : Sem1 D} {pos : Pos} (ha : PE X a (tV X.K P F0 H0 f)) : PE X (.UnaryOp .Not a pos) (tV X.K P F0 H0 (eNot f)) := by
  refine PE.con (pe_not ha) fun σ H Q ⟨F, s, d, s', r, e, q⟩ => ?_
  unfold eNot at e
  split at e
  · rename_i b s1 e1
    cases e
    refine ⟨F, s, .bl b, s', r, e1, fun v F1 H1 x1 r1 d1 => ?_⟩
    cases d1
    exact ⟨b, rfl, q _ F1 H1 x1 r1 (.bl _)⟩
  · cases e
/-! ### one operand -/
def e1 (g : D → Option D) (f : Sem1 D) : Sem1 D := fun s => match f s with
  | some (d, s1) => match g d with
    | some c => some (c, s1)
    | none => none
  | none => none
def gNeg : D → Option D
  | .int i => some (.int (-i))
  | _ => none
theorem v_neg {a : Expr} {f : Sem1 D} {pos : Pos} (ha : PE X a (tV X.K P F0 H0 f)) : PE X (.UnaryOp .USub a pos) (tV X.K P F0 H0 (e1 gNeg f)) := by
  refine PE.con (pe_un un_neg ha) fun σ H Q ⟨F, s, d, s', r, e, q⟩ => ?_
  unfold e1 at e
  split at e
  · rename_i d1 s1 e1
    split at e
    · rename_i c ec
      cases e
      refine ⟨F, s, d1, s', r, e1, fun v F1 H1 x1 r1 d1 => ?_⟩
      unfold gNeg at ec
      split at ec
      · cases ec
        cases d1
        exact ⟨_, rfl, q _ F1 H1 x1 r1 (.int _)⟩
      · cases ec
    · cases e
  · cases e
end
end VS
end
section
set_option Elab.async false
set_option linter.all false
set_option maxRecDepth 100000
set_option maxHeartbeats 4000000
namespace VS
open PySem PySem.Spec PyProof.Rows L2
abbrev LIM : Nat := 16777216
theorem le_lim {n : Nat} (h : n ≤ LIM) : n ≤ sizeLine := by rw [sizeLine_eq]; exact h
section
variable {K : PySem.W.Frag} {P : Option Addr}
theorem OpV.or {r r' : R2} {g g' : G2} (h : OpV K P r g) (h' : OpV K P r' g') : OpV K P (fun x y H Q => r x y H Q ∨ r' x y H Q) (fun d e => match g d e with | some c => some c | none => g' d e) := by
  intro F H x y d e c Q fh hx hy hg q
  dsimp only at hg
  split at hg
  · rename_i c' ec
    cases hg
    exact .inl (h F H x y d e c Q fh hx hy ec q)
  · exact .inr (h' F H x y d e c Q fh hx hy hg q)
/-- two ints -/
def gI (C : Int → Int → Bool) (g : Int → Int → D) : G2
  | .int i, .int j => if C i j = true then some (g i j) else none
  | _, _ => none
theorem ov_I {C : Int → Int → Prop} {g : Int → Int → VV} {Cb : Int → Int → Bool} {gd : Int → Int → D} (hc : ∀ i j, Cb i j = true → C i j) (hg : ∀ F i j, DR K P F (g i j) (gd i j)) : OpV K P (rI C g) (gI Cb gd) := by
  intro F H x y d e c Q fh hx hy hgd q
  unfold gI at hgd
  split at hgd
  · rename_i i j
    split at hgd
    · rename_i hcb
      cases hgd
      exact ⟨i, j, hx.int, hy.int, hc i j hcb, q _ F H (.refl fh) (hg F i j)⟩
    · cases hgd
  · cases hgd
theorem ov_I0 {g : Int → Int → VV} {gd : Int → Int → D} (hg : ∀ F i j, DR K P F (g i j) (gd i j)) : OpV K P (rI0 g) (gI (fun _ _ => true) gd) := by
  intro F H x y d e c Q fh hx hy hgd q
  unfold gI at hgd
  split at hgd
  · rename_i i j
    rw [if_pos rfl] at hgd
    cases hgd
    exact ⟨i, j, hx.int, hy.int, q _ F H (.refl fh) (hg F i j)⟩
  · cases hgd
def gStrAdd : G2
  | .str a, .str b => if a.length + b.length ≤ LIM then some (.str (a ++ b)) else none
  | _, _ => none
theorem ov_strAdd : OpV K P (fun x y H Q => ∃ i j, x = .str i ∧ y = .str j ∧ i.length + j.length ≤ sizeLine ∧ Q (.str (i ++ j)) H) gStrAdd := by
  intro F H x y d e c Q fh hx hy hgd q
  unfold gStrAdd at hgd
  split at hgd
  · split at hgd
    · rename_i hl
      cases hgd
      exact ⟨_, _, hx.str, hy.str, le_lim hl, q _ F H (.refl fh) (.str _)⟩
    · cases hgd
  · cases hgd
def gCat : G2
  | .lst a, .lst b => if a.length + b.length ≤ LIM then some (.lst (a ++ b)) else none
  | _, _ => none
theorem ov_cat : OpV K P rCat gCat := by
  intro F H x y d e c Q fh hx hy hgd q
  unfold gCat at hgd
  split at hgd
  · split at hgd
    · rename_i hl
      cases hgd
      obtain ⟨a, vs, rfl, ha, ra⟩ := hx.lst fh
      obtain ⟨b, us, rfl, hb, rb⟩ := hy.lst fh
      refine ⟨a, b, vs, us, rfl, rfl, ha, hb, by rw [ra.length, rb.length]; exact le_lim hl, fun p np => ?_⟩
      have g := Grow.upd (o := .lst (vs ++ us)) fh np
      exact q _ _ _ g (.lst upd_same ((ra.append rb).mono g.ff))
    · cases hgd
  · cases hgd
def gCatT : G2
  | .tup (a :: as), .tup b => if (a :: as).length + b.length ≤ LIM then some (.tup (a :: as ++ b)) else none
  | _, _ => none
theorem ov_catT : OpV K P (rCatT K) gCatT := by
  intro F H x y d e c Q fh hx hy hgd q
  unfold gCatT at hgd
  split at hgd
  · rename_i d0 ds b
    split at hgd
    · rename_i hl
      cases hgd
      have hx0 := hx
      obtain ⟨a, vs, rfl, ha, ra⟩ := hx.tup fh
      obtain ⟨b, us, rfl, hb, rb⟩ := hy.tup fh
      refine ⟨a, b, vs, us, rfl, rfl, ha, hb, fun z => ?_, by rw [ra.length, rb.length]; exact le_lim hl, fun z => ?_, fun z p np => ?_⟩
      · rw [z] at ra
        cases ra
      · subst z
        cases rb
        refine q _ F H (.refl fh) ?_
        rw [List.append_nil]
        rcases hx0 with h | ⟨a', ev, _, w⟩
        · exact h
        · exact (show False from w).elim
      · have g := Grow.upd (o := .tup (vs ++ us)) fh np
        exact q _ _ _ g (.tup (.inl (.inl upd_same)) ((ra.append rb).mono g.ff))
    · cases hgd
  · cases hgd
def gRep : G2
  | .lst a, .int k => if -(2 ^ 63) ≤ k ∧ k < 2 ^ 63 ∧ a.length * k.toNat ≤ LIM then some (.lst (List.replicate k.toNat a).flatten) else none
  | _, _ => none
theorem DRs.rep {F : Hp} {vs : List VV} {ds : List D} (r : DRs K P F vs ds) : ∀ n : Nat, DRs K P F (List.replicate n vs).flatten (List.replicate n ds).flatten
  | 0 => .nil
  | n + 1 => by
    rw [List.replicate_succ, List.replicate_succ, List.flatten_cons, List.flatten_cons]
    exact r.append (DRs.rep r n)
theorem ov_rep : OpV K P rRep gRep := by
  intro F H x y d e c Q fh hx hy hgd q
  unfold gRep at hgd
  split at hgd
  · rename_i ds k
    split at hgd
    · rename_i hl
      cases hgd
      obtain ⟨a, vs, rfl, ha, ra⟩ := hx.lst fh
      have ey := hy.int
      subst ey
      refine ⟨a, k, vs, rfl, rfl, ha, hl.1, hl.2.1, by rw [ra.length]; exact le_lim hl.2.2, fun p np => ?_⟩
      have g := Grow.upd (o := .lst (List.replicate k.toNat vs).flatten) fh np
      exact q _ _ _ g (.lst upd_same ((ra.rep _).mono g.ff))
    · cases hgd
  · cases hgd
def cMul (i j : Int) : Bool := decide (i.natAbs.log2 + j.natAbs.log2 < 1000000)
def cDiv (_ j : Int) : Bool := decide (j ≠ 0 ∧ j.natAbs.log2 < 9000)
def cMod (_ j : Int) : Bool := decide (j ≠ 0)
def cPow (i j : Int) : Bool := decide (0 ≤ j ∧ j ≤ 1000000 ∧ i.natAbs < 2 ^ 64)
theorem cMul_ok (i j : Int) (h : cMul i j = true) : CMulW i j := by
  unfold cMul at h
  exact (of_decide_eq_true h : i.natAbs.log2 + j.natAbs.log2 < 1000000)
theorem cPow_ok (i j : Int) (h : cPow i j = true) : CPow i j := by
  unfold cPow at h
  exact (of_decide_eq_true h : 0 ≤ j ∧ j ≤ 1000000 ∧ i.natAbs < 2 ^ 64)
end
section
variable {X : Cx} {P : Option Addr}
theorem op_fdivZ : OpR X (binaryOp .FloorDiv) (rI (fun _ j => j ≠ 0 ∧ j.natAbs.log2 < 9000) fun i j => .int (i.fdiv j)) := opI fun i j _ _ _ _ _ hc q =>
  floordiv_int hc.1 q (.inl (PyProof.noPylong_of_log2 hc.2))
end
def gAdd : G2 := fun d e => match gI (fun _ _ => true) (fun i j => .int (i + j)) d e with
  | some c => some c
  | none => (fun d e => match gStrAdd d e with
    | some c => some c
    | none => (fun d e => match gCat d e with
      | some c => some c
      | none => gCatT d e) d e) d e
def gSub : G2 := gI (fun _ _ => true) (fun i j => .int (i - j))
def gMul : G2 := fun d e => match gI cMul (fun i j => .int (i * j)) d e with
  | some c => some c
  | none => gRep d e
def gFdiv : G2 := gI cDiv (fun i j => .int (i.fdiv j))
def gMod : G2 := gI cMod (fun i j => .int (i.fmod j))
def gPow : G2 := gI cPow (fun i j => .int (i ^ j.toNat))
section
variable {X : Cx} {P : Option Addr} {F0 H0 : Hp} {a b : Expr} {f f' : Sem1 D} {pos : Pos}
theorem v_add (ha : PE X a (tVB X.K P F0 H0 f)) (hb : PE X b (tVB X.K P F0 H0 f')) : PE X (.BinOp a .Add b pos) (tV X.K P F0 H0 (e2 gAdd f f')) :=
  v_bin (op_add.or (op_add_str.or (op_cat.or op_catT))) ((ov_I0 fun F i j => .int _).or (ov_strAdd.or (ov_cat.or ov_catT))) ha hb
theorem v_sub (ha : PE X a (tVB X.K P F0 H0 f)) (hb : PE X b (tVB X.K P F0 H0 f')) : PE X (.BinOp a .Sub b pos) (tV X.K P F0 H0 (e2 gSub f f')) :=
  v_bin op_sub (ov_I0 fun F i j => .int _) ha hb
theorem v_mul (ha : PE X a (tVB X.K P F0 H0 f)) (hb : PE X b (tVB X.K P F0 H0 f')) : PE X (.BinOp a .Mult b pos) (tV X.K P F0 H0 (e2 gMul f f')) :=
  v_bin (op_mulW.or op_rep) ((ov_I cMul_ok fun F i j => .int _).or ov_rep) ha hb
theorem v_fdiv (ha : PE X a (tVB X.K P F0 H0 f)) (hb : PE X b (tVB X.K P F0 H0 f')) : PE X (.BinOp a .FloorDiv b pos) (tV X.K P F0 H0 (e2 gFdiv f f')) :=
  v_bin op_fdivZ (ov_I (fun i j h => of_decide_eq_true h) fun F i j => .int _) ha hb
theorem v_mod (ha : PE X a (tVB X.K P F0 H0 f)) (hb : PE X b (tVB X.K P F0 H0 f')) : PE X (.BinOp a .Mod b pos) (tV X.K P F0 H0 (e2 gMod f f')) :=
  v_bin op_modN (ov_I (fun i j h => of_decide_eq_true h) fun F i j => .int _) ha hb
theorem v_pow (ha : PE X a (tVB X.K P F0 H0 f)) (hb : PE X b (tVB X.K P F0 H0 f')) : PE X (.BinOp a .Pow b pos) (tV X.K P F0 H0 (e2 gPow f f')) :=
  v_bin op_pow (ov_I cPow_ok fun F i j => .int _) ha hb
def gLt : G2 := gI (fun _ _ => true) fun i j => .bl (decide (i < j))
def gLe : G2 := gI (fun _ _ => true) fun i j => .bl (decide (i ≤ j))
def gGt : G2 := gI (fun _ _ => true) fun i j => .bl (decide (j < i))
def gGe : G2 := gI (fun _ _ => true) fun i j => .bl (decide (j ≤ i))
theorem ov_lt : OpV X.K P (rI0 fun i j => .bl (decide (i < j))) gLt := ov_I0 fun _ _ _ => .bl _
theorem ov_le : OpV X.K P (rI0 fun i j => .bl (decide (i ≤ j))) gLe := ov_I0 fun _ _ _ => .bl _
theorem ov_gt : OpV X.K P (rI0 fun i j => .bl (decide (j < i))) gGt := ov_I0 fun _ _ _ => .bl _
theorem ov_ge : OpV X.K P (rI0 fun i j => .bl (decide (j ≤ i))) gGe := ov_I0 fun _ _ _ => .bl _
/-- is None -/
def gIsN : G2
  | .non, .non => some (.bl true)
  | .int _, .non => some (.bl false)
  | .bl _, .non => some (.bl false)
  | .str _, .non => some (.bl false)
  | .lst _, .non => some (.bl false)
  | .tup _, .non => some (.bl false)
  | .ins _ _ _, .non => some (.bl false)
  | _, _ => none
def gNotN : G2 := fun d e => match gIsN d e with
  | some (.bl b) => some (.bl (!b))
  | _ => none
theorem isN_of {F H : Hp} {x y : VV} {d e : D} {b : Bool} (fh : Same F H) (hx : DB X.K P F H x d) (hy : DB X.K P F H y e) (h : gIsN d e = some (.bl b)) : y = .non ∧ decide (x = .non) = b := by
  unfold gIsN at h
  split at h
  · cases h
    exact ⟨hy.non, by rw [hx.non]; rfl⟩
  · cases h
    exact ⟨hy.non, by rw [hx.int]; rfl⟩
  · cases h
    exact ⟨hy.non, by rw [hx.bl]; rfl⟩
  · cases h
    exact ⟨hy.non, by rw [hx.str]; rfl⟩
  · cases h
    obtain ⟨a, vs, rfl, _⟩ := hx.lst fh
    exact ⟨hy.non, rfl⟩
  · cases h
    obtain ⟨a, vs, rfl, _⟩ := hx.tup fh
    exact ⟨hy.non, rfl⟩
  · cases h
    obtain ⟨a, dx, fs, rfl, _⟩ := hx.ins fh
    exact ⟨hy.non, rfl⟩
  · cases h
theorem ov_isN : OpV X.K P (fun x y H Q => y = .non ∧ Q (.bl (decide (x = .non))) H) gIsN := by
  intro F H x y d e c Q fh hx hy hgd q
  have : ∃ b, c = .bl b := by
    unfold gIsN at hgd
    split at hgd <;> first | (cases hgd; exact ⟨_, rfl⟩) | cases hgd
  obtain ⟨b, rfl⟩ := this
  obtain ⟨h1, h2⟩ := isN_of fh hx hy hgd
  refine ⟨h1, ?_⟩
  rw [h2]
  exact q _ F H (.refl fh) (.bl b)
theorem ov_notN : OpV X.K P (fun x y H Q => y = .non ∧ Q (.bl (!decide (x = .non))) H) gNotN := by
  intro F H x y d e c Q fh hx hy hgd q
  unfold gNotN at hgd
  split at hgd
  · rename_i b eb
    cases hgd
    obtain ⟨h1, h2⟩ := isN_of fh hx hy eb
    refine ⟨h1, ?_⟩
    rw [h2]
    exact q _ F H (.refl fh) (.bl _)
  · cases hgd
/-- is True, is False -/
def gIsB : G2
  | .bl a, .bl b => some (.bl (decide (a = b)))
  | _, _ => none
def gNotB : G2
  | .bl a, .bl b => some (.bl (!decide (a = b)))
  | _, _ => none
theorem ov_isB : OpV X.K P rIsB gIsB := by
  intro F H x y d e c Q fh hx hy hgd q
  unfold gIsB at hgd
  split at hgd
  · cases hgd
    exact ⟨_, _, hx.bl, hy.bl, q _ F H (.refl fh) (.bl _)⟩
  · cases hgd
theorem ov_notB : OpV X.K P rNotB gNotB := by
  intro F H x y d e c Q fh hx hy hgd q
  unfold gNotB at hgd
  split at hgd
  · cases hgd
    exact ⟨_, _, hx.bl, hy.bl, q _ F H (.refl fh) (.bl _)⟩
  · cases hgd
/-- a < b < c -/
def eChain (g g' : G2) (f f' f'' : Sem1 D) : Sem1 D := fun s => match f s with
  | some (d, s1) => match f' s1 with
    | some (e, s2) => match g d e with
      | some (.bl true) => match f'' s2 with
        | some (k, s3) => match g' e k with
          | some c => some (c, s3)
          | none => none
        | none => none
      | some (.bl false) => some (.bl false, s2)
      | _ => none
    | none => none
  | none => none
theorem tChain_of {r r' : R2} {g g' : G2} {f f' f'' : Sem1 D} (hr : OpV X.K P r g) (hr' : OpV X.K P r' g') (σ : St) (H : Hp) (Q : VK) (h : tV X.K P F0 H0 (eChain g g' f f' f'') σ H Q) :
    tChain r r' (tVB X.K P F0 H0 f) (tVB X.K P F0 H0 f') (tVB X.K P F0 H0 f'') σ H Q := by
  obtain ⟨F, s, c, s', r0, e, q⟩ := h
  unfold eChain at e
  split at e
  · rename_i d s1 e1
    split at e
    · rename_i d' s2 e2
      refine ⟨F, s, d, s1, r0, e1, fun v F1 H1 x1 r1 d1 => ⟨F1, s1, d', s2, r1, e2, fun v2 F2 H2 x2 r2 d2 => ?_⟩⟩
      split at e
      · rename_i e3
        refine hr F2 H2 v v2 d d' _ _ r2.hr.sub (d1.mono x2) d2 e3 fun v3 F3 H3 g3 d3 => ?_
        cases d3
        refine ⟨true, rfl, iteT ?_⟩
        split at e
        · rename_i k s3 e4
          split at e
          · rename_i c' e5
            cases e
            refine ⟨F3, s2, k, s', r2.grow g3, e4, fun v4 F4 H4 x4 r4 d4 => ?_⟩
            exact hr' F4 H4 v2 v4 d' k c Q r4.hr.sub ((d2.mono (g3.ex (s := s2) (σ := σ))).mono x4) d4 e5 fun v5 F5 H5 g5 d5 => q v5 F5 H5 ((((x1.trans x2).trans g3.ex).trans x4).trans g5.ex) (r4.grow g5) d5
          · cases e
        · cases e
      · rename_i e3
        cases e
        refine hr F2 H2 v v2 d d' _ _ r2.hr.sub (d1.mono x2) d2 e3 fun v3 F3 H3 g3 d3 => ?_
        cases d3
        exact ⟨false, rfl, iteF (q _ F3 H3 ((x1.trans x2).trans g3.ex) (r2.grow g3) (.bl false))⟩
      · cases e
    · cases e
  · cases e
theorem v_chain {c : Expr} {op op' : CmpOp} {r r' : R2} {g g' : G2} {f'' : Sem1 D} (ho : OpR X (compareOp op) r) (hr : OpV X.K P r g) (ho' : OpR X (compareOp op') r') (hr' : OpV X.K P r' g')
    (ha : PE X a (tVB X.K P F0 H0 f)) (hb : PE X b (tVB X.K P F0 H0 f')) (hc : PE X c (tVB X.K P F0 H0 f'')) (hm : lastMarks [op, op'] [b, c] = false := by with_unfolding_all rfl) : PE X (.Compare a [op, op'] [b, c] pos) (tV X.K P F0 H0 (eChain g g' f f' f'')) :=
  PE.con (pe_chain ho ho' ha hb hc hm) fun σ H Q h => tChain_of hr hr' σ H Q h
theorem v_chainT {c : Expr} {op op' : CmpOp} {r r' : R2} {g g' : G2} {f'' : Sem1 D} (ho : OpR X (compareOp op) r) (hr : OpV X.K P r g) (ho' : OpR X (compareOp op') r') (hr' : OpV X.K P r' g')
    (ha : PE X a (tVB X.K P F0 H0 f)) (hb : PE X b (tVB X.K P F0 H0 f')) (hc : PE X c (tVB X.K P F0 H0 f'')) (hm : lastMarks [op, op'] [b, c] = false := by with_unfolding_all rfl) : PT X (.Compare a [op, op'] [b, c] pos) (tT X.K P F0 H0 (eT (eChain g g' f f' f''))) :=
  PT.con (pt_chain ho ho' ha hb hc hm) fun σ H Q h => tT_of (fun σ H Q h => tChain_of hr hr' σ H Q h) σ H Q h
/-! ### displays -/
def eTup (f : Sem1 (List D)) : Sem1 D := fun s => match f s with
  | some (ds, s1) => if ds.length ≤ LIM then some (.tup ds, s1) else none
  | none => none
def eLst (f : Sem1 (List D)) : Sem1 D := fun s => match f s with
  | some (ds, s1) => if ds.length ≤ LIM then some (.lst ds, s1) else none
  | none => none
theorem v_tup {es : List Expr} {f : Sem1 (List D)} {k} (h : PA X es (tA X.K P F0 H0 f)) : PE X (.Tuple es k pos) (tV X.K P F0 H0 (eTup f)) := by
  refine PE.con (pe_tup h) fun σ H Q ⟨F, s, d, s', r, e, q⟩ => ?_
  unfold eTup at e
  split at e
  · rename_i ds s1 e1
    split at e
    · rename_i hl
      cases e
      refine ⟨F, s, ds, s', r, e1, fun vs F1 H1 x1 r1 d1 => ⟨by rw [d1.length]; exact le_lim hl, fun p np => ?_⟩⟩
      have g := Grow.upd (o := .tup vs) r1.hr.sub np
      exact q _ _ _ (x1.trans g.ex) (r1.grow g) (.tup (.inl (.inl upd_same)) (d1.mono g.ff))
    · cases e
  · cases e
theorem v_lst {es : List Expr} {f : Sem1 (List D)} (h : PA X es (tA X.K P F0 H0 f)) : PE X (.List es pos) (tV X.K P F0 H0 (eLst f)) := by
  refine PE.con (pe_lst h) fun σ H Q ⟨F, s, d, s', r, e, q⟩ => ?_
  unfold eLst at e
  split at e
  · rename_i ds s1 e1
    split at e
    · rename_i hl
      cases e
      refine ⟨F, s, ds, s', r, e1, fun vs F1 H1 x1 r1 d1 => ⟨by rw [d1.length]; exact le_lim hl, fun p np => ?_⟩⟩
      have g := Grow.upd (o := .lst vs) r1.hr.sub np
      exact q _ _ _ (x1.trans g.ex) (r1.grow g) (.lst upd_same (d1.mono g.ff))
    · cases e
  · cases e
/-! ### subscripts -/
def gIx : G2
  | .lst ds, .int i => atI ds i
  | .tup ds, .int i => atI ds i
  | .scr ns, .int i => (atI ns i).map .int
  | _, _ => none
theorem atI_rel {K : PySem.W.Frag} {F : Hp} {vs : List VV} {ds : List D} {i : Int} {d : D} (r : DRs K P F vs ds) (h : atI ds i = some d) : ∃ v, atI vs i = some v ∧ DR K P F v d := by
  unfold atI at h ⊢
  rw [r.length]
  cases q : ixN ds.length i with
  | none =>
    rw [q] at h
    cases h
  | some j =>
    rw [q] at h
    exact r.get h
theorem ov_ix : OpV X.K P (rIx X.K) gIx := by
  intro F H x y d e c Q fh hx hy hgd q
  unfold gIx at hgd
  split at hgd
  · rename_i ds i
    obtain ⟨a, vs, rfl, ha, ra⟩ := hx.lst fh
    obtain ⟨v, hv, dv⟩ := atI_rel ra hgd
    exact .inl ⟨a, vs, i, v, rfl, hy.int, .of ha, hv, q v F H (.refl fh) dv⟩
  · rename_i ds i
    obtain ⟨a, vs, rfl, ha, ra⟩ := hx.tup fh
    obtain ⟨v, hv, dv⟩ := atI_rel ra hgd
    exact .inr (.inl ⟨a, vs, i, v, rfl, hy.int, ha, hv, q v F H (.refl fh) dv⟩)
  · rename_i ns i
    obtain ⟨a, rfl, ha⟩ := hx.scr fh
    cases hn : atI ns i with
    | none =>
      rw [hn] at hgd
      cases hgd
    | some n =>
      rw [hn] at hgd
      cases hgd
      refine .inl ⟨a, _, i, .int n, rfl, hy.int, ha, ?_, q _ F H (.refl fh) (.int n)⟩
      unfold atI at hn ⊢
      rw [List.length_map]
      cases k : ixN ns.length i with
      | none =>
        rw [k] at hn
        cases hn
      | some j =>
        rw [k] at hn
        show (ns.map V.int)[j]? = _
        rw [List.getElem?_map, show ns[j]? = some n from hn]
        rfl
  · cases hgd
theorem v_ix (ha : PE X a (tVB X.K P F0 H0 f)) (hb : PE X b (tVB X.K P F0 H0 f')) (hs : PlainIx b := by exact fun _ _ => rfl) : PE X (.Subscript a b pos) (tV X.K P F0 H0 (e2 gIx f f')) :=
  PE.con (pe_ix ix_seq ha hb hs) fun σ H Q h => tOp_of ov_ix σ H Q h
/-! ### slices -/
def cutD (ds : List D) (lo hi : Option Int) : List D := (ds.drop (HT.sIx ds.length 0 lo)).take (HT.sIx ds.length ds.length hi - HT.sIx ds.length 0 lo)
theorem cut_rel {K : PySem.W.Frag} {F : Hp} {vs : List VV} {ds : List D} (r : DRs K P F vs ds) (lo hi : Option Int) : DRs K P F (cutV vs lo hi) (cutD ds lo hi) := by
  unfold cutV cutD
  rw [r.length]
  exact (r.drop _).take _
def eCut (f : Sem1 D) (lo hi : Option (Sem1 D)) : Sem1 D := fun s => match f s with
  | some (d, s1) =>
    let part (g : Option (Sem1 D)) (s : S) : Option (Option Int × S) := match g with
      | none => some (none, s)
      | some g => match g s with
        | some (.int i, s') => some (some i, s')
        | _ => none
    match part lo s1 with
    | some (l, s2) => match part hi s2 with
      | some (h, s3) => match d with
        | .lst ds => some (.lst (cutD ds l h), s3)
        | .scr ns => some (.lst ((ns.drop (HT.sIx ns.length 0 l)).take (HT.sIx ns.length ns.length h - HT.sIx ns.length 0 l) |>.map .int), s3)
        | .tup ds => if HT.sIx ds.length 0 l = 0 ∧ HT.sIx ds.length ds.length h = ds.length then none else some (.tup (cutD ds l h), s3)
        | _ => none
      | none => none
    | none => none
  | none => none
def partD (g : Option (Sem1 D)) (s : S) : Option (Option Int × S) := match g with
  | none => some (none, s)
  | some g => match g s with
    | some (.int i, s') => some (some i, s')
    | _ => none
def tPO (K : PySem.W.Frag) (P : Option Addr) (F0 H0 : Hp) (g : Option (Sem1 D)) : TO := fun σ H Q => ∃ F s o s', SR K P F0 H0 F σ H s ∧ partD g s = some (o, s') ∧ ∀ F' H', Ex P σ F H s F' H' s' → SR K P F0 H0 F' σ H' s' → Q o H'
theorem PO.con {e : Option Expr} {t t' : TO} (h : PO X e t) (i : ∀ σ H Q, t' σ H Q → t σ H Q) : PO X e t' := ⟨fun pins s σ H Q I q => h.run pins s σ H Q I (i _ _ _ q)⟩
theorem o_none : PO X none (tPO X.K P F0 H0 none) := PO.con po_none fun σ H Q ⟨F, s, o, s', r, e, q⟩ => by
  cases e
  exact q F H .refl r
theorem o_some {e : Expr} {g : Sem1 D} (h : PE X e (tV X.K P F0 H0 g)) : PO X (some e) (tPO X.K P F0 H0 (some g)) := PO.con (po_some h) fun σ H Q ⟨F, s, o, s', r, e, q⟩ => by
  unfold partD at e
  dsimp only at e
  split at e
  · rename_i i s1 e1
    cases e
    refine ⟨F, s, .int i, s', r, e1, fun v F1 H1 x1 r1 d1 => ?_⟩
    cases d1
    exact ⟨i, rfl, q F1 H1 x1 r1⟩
  · cases e
theorem scr_drs {K : PySem.W.Frag} {F : Hp} : ∀ ns : List Int, DRs K P F (ns.map V.int) (ns.map D.int)
  | [] => .nil
  | n :: ns => .cons (.int n) (scr_drs ns)
theorem v_cut {e : Expr} {lo hi : Option Expr} {gl gh : Option (Sem1 D)} {p2 : Pos} (he : PE X e (tVB X.K P F0 H0 f)) (hl : PO X lo (tPO X.K P F0 H0 gl)) (hh : PO X hi (tPO X.K P F0 H0 gh)) :
    PE X (.Subscript e (.Slice lo hi none p2) pos) (tV X.K P F0 H0 (eCut f gl gh)) := by
  refine PE.con (pe_slice (sl_list.or sl_tup) he hl hh) fun σ H Q ⟨F, s, c, s', r, e, q⟩ => ?_
  unfold eCut at e
  split at e
  · rename_i d s1 e1
    dsimp only at e
    split at e
    · rename_i l s2 el
      split at e
      · rename_i h s3 eh
        refine ⟨F, s, d, s1, r, e1, fun v F1 H1 x1 r1 d1 => ⟨F1, s1, l, s2, r1, el, fun F2 H2 x2 r2 => ⟨F2, s2, h, s3, r2, eh, fun F3 H3 x3 r3 => ?_⟩⟩⟩
        have d3 := (d1.mono x2).mono x3
        have x13 := (x1.trans x2).trans x3
        split at e
        · rename_i ds
          cases e
          obtain ⟨a, vs, rfl, ha, ra⟩ := d3.lst r3.hr.sub
          refine .inl ⟨a, vs, rfl, .of ha, fun p np => ?_⟩
          have g := Grow.upd (o := .lst (cutV vs l h)) r3.hr.sub np
          exact q _ _ _ (x13.trans g.ex) (r3.grow g) (.lst upd_same ((cut_rel ra l h).mono g.ff))
        · rename_i ns
          cases e
          obtain ⟨a, rfl, ha⟩ := d3.scr r3.hr.sub
          refine .inl ⟨a, _, rfl, ha, fun p np => ?_⟩
          have g := Grow.upd (o := .lst (cutV (ns.map V.int) l h)) r3.hr.sub np
          refine q _ _ _ (x13.trans g.ex) (r3.grow g) (.lst upd_same ?_)
          have : cutV (ns.map V.int) l h = ((ns.drop (HT.sIx ns.length 0 l)).take (HT.sIx ns.length ns.length h - HT.sIx ns.length 0 l)).map V.int := by
            unfold cutV
            rw [List.length_map, List.map_take, List.map_drop]
          rw [this]
          exact scr_drs _
        · rename_i ds
          split at e
          · cases e
          · rename_i hn
            cases e
            obtain ⟨a, vs, rfl, ha, ra⟩ := d3.tup r3.hr.sub
            refine .inr ⟨a, vs, rfl, ha, by rw [ra.length]; exact hn, fun p np => ?_⟩
            have g := Grow.upd (o := .tup (cutV vs l h)) r3.hr.sub np
            exact q _ _ _ (x13.trans g.ex) (r3.grow g) (.tup (.inl (.inl upd_same)) ((cut_rel ra l h).mono g.ff))
        · cases e
      · cases e
    · cases e
  · cases e
/-- xs[::-1] -/
def gRev : D → Option D
  | .lst ds => some (.lst ds.reverse)
  | _ => none
theorem v_rev {e : Expr} {k : Nat} {p1 p2 p3 : Pos} (he : PE X e (tVB X.K P F0 H0 f)) : PE X (.Subscript e (.Slice none none (some (.UnaryOp .USub (.Constant (.int 1) k p1) p2)) p3) pos) (tV X.K P F0 H0 (e1 gRev f)) := by
  refine PE.con (pe_revL he) fun σ H Q ⟨F, s, c, s', r, e, q⟩ => ?_
  unfold e1 at e
  split at e
  · rename_i d s1 e1
    split at e
    · rename_i c' ec
      cases e
      refine ⟨F, s, d, s', r, e1, fun v F1 H1 x1 r1 d1 => ?_⟩
      unfold gRev at ec
      split at ec
      · cases ec
        obtain ⟨a, vs, rfl, ha, ra⟩ := d1.lst r1.hr.sub
        refine ⟨a, vs, rfl, .of ha, fun p np => ?_⟩
        have g := Grow.upd (o := .lst vs.reverse) r1.hr.sub np
        exact q _ _ _ (x1.trans g.ex) (r1.grow g) (.lst upd_same (ra.reverse.mono g.ff))
      · cases ec
    · cases e
  · cases e
end
end VS
end
section
set_option Elab.async false
set_option linter.all false
set_option maxRecDepth 100000
set_option maxHeartbeats 4000000
namespace VS
open PySem PySem.Spec PyProof.Rows L2
/-! ### built-in calls -/
inductive DBs (K : PySem.W.Frag) (P : Option Addr) (F H : Hp) : List VV → List D → Prop
  | nil : DBs K P F H [] []
  | cons {v : VV} {d : D} {vs : List VV} {ds : List D} (h : DB K P F H v d) (t : DBs K P F H vs ds) : DBs K P F H (v :: vs) (d :: ds)
def tAB (K : PySem.W.Frag) (P : Option Addr) (F0 H0 : Hp) (f : Sem1 (List D)) : TA := fun σ H Q => ∃ F s ds s', SR K P F0 H0 F σ H s ∧ f s = some (ds, s') ∧ ∀ vs F' H', Ex P σ F H s F' H' s' → SR K P F0 H0 F' σ H' s' → DBs K P F' H' vs ds → Q vs H'
section
variable {X : Cx} {P : Option Addr} {F0 H0 : Hp}
theorem ab_nil : PA X [] (tAB X.K P F0 H0 aNil) := PA.con pa_nil fun σ H Q ⟨F, s, d, s', r, e, q⟩ => by
  cases e
  exact q _ F H .refl r .nil
theorem ab_cons {f : Sem1 D} {g : Sem1 (List D)} {e : Expr} {es : List Expr} (hf : PE X e (tVB X.K P F0 H0 f)) (hg : PA X es (tAB X.K P F0 H0 g)) (hs : starEach (e :: es) X.env = (false, eval e X.env) :: starEach es X.env := by rfl) : PA X (e :: es) (tAB X.K P F0 H0 (aCons f g)) := by
  refine PA.con (pa_cons hf hg hs) fun σ H Q ⟨F, s, ds, s', r, e, q⟩ => ?_
  unfold aCons at e
  split at e
  · rename_i d s1 e1
    split at e
    · rename_i es s2 e2
      cases e
      refine ⟨F, s, d, s1, r, e1, fun v F1 H1 x1 r1 d1 => ⟨F1, s1, es, s', r1, e2, fun vs F2 H2 x2 r2 d2 => ?_⟩⟩
      exact q _ F2 H2 (x1.trans x2) r2 (.cons (d1.mono x2) d2)
    · cases e
  · cases e
def CallV (K : PySem.W.Frag) (P : Option Addr) (r : List VV → Hp → VK → Prop) (g : List D → Option D) : Prop := ∀ (F H : Hp) (xs : List VV) (ds : List D) (c : D) (Q : VK), Same F H → DBs K P F H xs ds → g ds = some c → (∀ v F' H', Grow none F H F' H' → DR K P F' v c → Q v H') → r xs H Q
def eL (g : List D → Option D) (f : Sem1 (List D)) : Sem1 D := fun s => match f s with
  | some (ds, s1) => match g ds with
    | some c => some (c, s1)
    | none => none
  | none => none
theorem tCB_of {r : List VV → Hp → VK → Prop} {g : List D → Option D} {f : Sem1 (List D)} (hr : CallV X.K P r g) (σ : St) (H : Hp) (Q : VK) (h : tV X.K P F0 H0 (eL g f) σ H Q) : tCB r (tAB X.K P F0 H0 f) σ H Q := by
  obtain ⟨F, s, c, s', r0, e, q⟩ := h
  unfold eL at e
  split at e
  · rename_i ds s1 e1
    split at e
    · rename_i c' ec
      cases e
      refine ⟨F, s, ds, s', r0, e1, fun vs F1 H1 x1 r1 d1 => ?_⟩
      exact hr F1 H1 vs ds c Q r1.hr.sub d1 ec fun v F2 H2 g2 d2 => q v F2 H2 (x1.trans g2.ex) (r1.grow g2) d2
    · cases e
  · cases e
theorem v_callB {r : List VV → Hp → VK → Prop} {g : List D → Option D} {f : Sem1 (List D)} {x : Str} {p pos : Pos} {e : Expr} {es : List Expr} {id : String} (hc : CallR X (.builtin id) r) (hr : CallV X.K P r g) (hm : X.mg x = none) (ha : PA X (e :: es) (tAB X.K P F0 H0 f))
    (hg : Gl X x := by rfl) (hv : bootBuiltins x = some (.builtin id) := by decide +kernel) (hn : x ≠ "__name__" := by decide) (hdb : (x == ("__debug__" : Str)) = false := by decide)
    (he : starEach (e :: es) X.env = (false, eval e X.env) :: starEach es X.env := by rfl) (hpl : (backTo pos (starEach es X.env)).any (·.1) = false := by rfl) : PE X (.Call (.Name x p) (e :: es) [] pos) (tV X.K P F0 H0 (eL g f)) :=
  PE.con (pe_callB hc hg hm hv ha hn hdb he hpl) fun σ H Q h => tCB_of hr σ H Q h
theorem v_callTy {r : List VV → Hp → VK → Prop} {g : List D → Option D} {f : Sem1 (List D)} {x : Str} {p pos : Pos} {e : Expr} {es : List Expr} {T : String} (hc : CallR X (.type T) r) (hr : CallV X.K P r g) (hm : X.mg x = none) (ha : PA X (e :: es) (tAB X.K P F0 H0 f))
    (hg : Gl X x := by rfl) (hv : bootBuiltins x = some (.type T) := by decide +kernel) (hn : x ≠ "__name__" := by decide) (hdb : (x == ("__debug__" : Str)) = false := by decide)
    (he : starEach (e :: es) X.env = (false, eval e X.env) :: starEach es X.env := by rfl) (hpl : (backTo pos (starEach es X.env)).any (·.1) = false := by rfl) : PE X (.Call (.Name x p) (e :: es) [] pos) (tV X.K P F0 H0 (eL g f)) :=
  PE.con (pe_callTy hc hg hm hv ha hn hdb he hpl) fun σ H Q h => tCB_of hr σ H Q h
theorem v_callF {r : List VV → Hp → VK → Prop} {g : List D → Option D} {f : Sem1 (List D)} {x : Str} {p pos : Pos} {e : Expr} {es : List Expr} {id : String} (hc : CallR X (.builtin id) r) (hr : CallV X.K P r g) (hm : X.mg x = some (.builtin id)) (ha : PA X (e :: es) (tAB X.K P F0 H0 f))
    (hg : Gl X x := by rfl) (hdb : (x == ("__debug__" : Str)) = false := by decide)
    (he : starEach (e :: es) X.env = (false, eval e X.env) :: starEach es X.env := by rfl) (hpl : (backTo pos (starEach es X.env)).any (·.1) = false := by rfl) : PE X (.Call (.Name x p) (e :: es) [] pos) (tV X.K P F0 H0 (eL g f)) :=
  PE.con (pe_callBfun hc hg hm ha hdb he hpl) fun σ H Q h => tCB_of hr σ H Q h
def gLen : List D → Option D
  | [.lst ds] => some (.int ds.length)
  | [.tup ds] => some (.int ds.length)
  | [.scr ns] => some (.int ns.length)
  | [.str z] => if z.length ≤ LIM then some (.int z.length) else none
  | _ => none
theorem cv_len : CallV X.K P (fun xs H Q => ∃ x n, xs = [x] ∧ LenV X.K x H n ∧ Q (.int n) H) gLen := by
  intro F H xs ds c Q fh hd hg q
  unfold gLen at hg
  split at hg
  · cases hg
    cases hd with | cons h t => cases t; obtain ⟨a, vs, rfl, ha, ra⟩ := h.lst fh; exact ⟨_, _, rfl, .inl ⟨vs, .of ha, ra.length.symm⟩, q _ F H (.refl fh) (.int _)⟩
  · cases hg
    cases hd with | cons h t => cases t; obtain ⟨a, vs, rfl, ha, ra⟩ := h.tup fh; exact ⟨_, _, rfl, .inr ⟨vs, ha, ra.length.symm⟩, q _ F H (.refl fh) (.int _)⟩
  · cases hg
    cases hd with | cons h t => cases t; obtain ⟨a, rfl, ha⟩ := h.scr fh; exact ⟨_, _, rfl, .inl ⟨_, ha, (List.length_map ..).symm⟩, q _ F H (.refl fh) (.int _)⟩
  · split at hg
    · rename_i hl
      cases hg
      cases hd with | cons h t => cases t; have := h.str; subst this; exact ⟨_, _, rfl, ⟨le_lim hl, rfl⟩, q _ F H (.refl fh) (.int _)⟩
    · cases hg
  · cases hg
/-- two ints -/
def gI2 (g : Int → Int → Int) : List D → Option D
  | [.int i, .int j] => some (.int (g i j))
  | _ => none
theorem cv_I2 {g : Int → Int → Int} : CallV X.K P (fun xs H Q => ∃ i j, xs = [.int i, .int j] ∧ Q (.int (g i j)) H) (gI2 g) := by
  intro F H xs ds c Q fh hd hg q
  unfold gI2 at hg
  split at hg
  · cases hg
    cases hd with | cons h t => cases t with | cons h2 t2 => cases t2; have := h.int; have := h2.int; subst_vars; exact ⟨_, _, rfl, q _ F H (.refl fh) (.int _)⟩
  · cases hg
def gI1 (g : Int → Int) : List D → Option D
  | [.int i] => some (.int (g i))
  | _ => none
theorem cv_I1 {g : Int → Int} : CallV X.K P (fun xs H Q => ∃ i, xs = [.int i] ∧ Q (.int (g i)) H) (gI1 g) := by
  intro F H xs ds c Q fh hd hg q
  unfold gI1 at hg
  split at hg
  · cases hg
    cases hd with | cons h t => cases t; have := h.int; subst_vars; exact ⟨_, rfl, q _ F H (.refl fh) (.int _)⟩
  · cases hg
def gGcd : List D → Option D := gI2 fun a b => ((Nat.gcd a.natAbs b.natAbs : Nat) : Int)
theorem cv_gcd : CallV X.K P rGcd gGcd := cv_I2
def gInt : List D → Option D
  | [.int i] => some (.int i)
  | [.bl b] => some (.int (if b then 1 else 0))
  | _ => none
theorem cv_int : CallV X.K P (fun xs H Q => (∃ i, xs = [.int i] ∧ Q (.int i) H) ∨ ∃ k, xs = [.bl k] ∧ Q (.int (if k then 1 else 0)) H) gInt := by
  intro F H xs ds c Q fh hd hg q
  unfold gInt at hg
  split at hg
  · cases hg
    cases hd with | cons h t => cases t; have := h.int; subst_vars; exact .inl ⟨_, rfl, q _ F H (.refl fh) (.int _)⟩
  · cases hg
    cases hd with | cons h t => cases t; have := h.bl; subst_vars; exact .inr ⟨_, rfl, q _ F H (.refl fh) (.int _)⟩
  · cases hg
def rLcm : List VV → Hp → VK → Prop := fun vs H Q => ∃ a b : Int, vs = [.int a, .int b] ∧ a.natAbs < 2 ^ 64 ∧ b.natAbs < 2 ^ 64 ∧ Q (.int ((Nat.lcm a.natAbs b.natAbs : Nat) : Int)) H
theorem cr_lcm : CallR X (.builtin "math.lcm") rLcm := by
  intro pins s σ H vs us Q I r h
  obtain ⟨a, b, rfl, ha, hb, q⟩ := h
  obtain ⟨t, u, rfl⟩ := Vals.int2 r
  have e : (Nat.lcm 1 a.natAbs).lcm b.natAbs = Nat.lcm a.natAbs b.natAbs := by rw [Nat.lcm_one_left]
  have hsz : (((Nat.lcm a.natAbs b.natAbs : Nat) : Int)).natAbs.log2 < bitsLine := by
    have h1 : Nat.lcm a.natAbs b.natAbs ≤ a.natAbs * b.natAbs := Nat.div_le_self _ _
    have h2 : a.natAbs * b.natAbs < 2 ^ 64 * 2 ^ 64 := Nat.mul_lt_mul'' ha hb
    have h3 : (((Nat.lcm a.natAbs b.natAbs : Nat) : Int)).natAbs < 2 ^ 128 := by
      rw [Int.natAbs_natCast]
      exact Nat.lt_of_le_of_lt h1 h2
    refine Nat.lt_of_lt_of_le (PySem.Flt.log2_lt_of (by decide) h3) (by decide)
  refine PySem.W.mg_lcm (a := a) (b := b) ha hb (by rw [e]; exact hsz) ⟨.int _, H, I.tok _, ⟨_, by rw [e]⟩, q⟩
def gLcm : List D → Option D
  | [.int i, .int j] => if i.natAbs < 2 ^ 64 ∧ j.natAbs < 2 ^ 64 then some (.int ((Nat.lcm i.natAbs j.natAbs : Nat) : Int)) else none
  | _ => none
theorem cv_lcm : CallV X.K P rLcm gLcm := by
  intro F H xs ds c Q fh hd hg q
  unfold gLcm at hg
  split at hg
  · split at hg
    · rename_i hl
      cases hg
      cases hd with | cons h t => cases t with | cons h2 t2 => cases t2; have := h.int; have := h2.int; subst_vars; exact ⟨_, _, rfl, hl.1, hl.2, q _ F H (.refl fh) (.int _)⟩
    · cases hg
  · cases hg
def intsOf : List D → Option (List Int)
  | [] => some []
  | .int i :: r => (intsOf r).map (i :: ·)
  | _ => none
theorem ints_rel {K : PySem.W.Frag} {P : Option Addr} {F : Hp} : ∀ {vs : List VV} {ds : List D} {ns : List Int}, DRs K P F vs ds → intsOf ds = some ns → vs = ns.map V.int
  | _, _, ns, .nil, e => by cases e; rfl
  | _, _, ns, .cons (d := d) (ds := ds) h t, e => by
    cases d with
    | int i =>
      have e' : (intsOf ds).map (i :: ·) = some ns := e
      cases q : intsOf ds with
      | none => rw [q] at e'; cases e'
      | some ms =>
        rw [q] at e'
        cases e'
        cases h
        rw [ints_rel t q]
        rfl
    | _ => cases e
def boolsOf : List D → Option (List Bool)
  | [] => some []
  | .bl i :: r => (boolsOf r).map (i :: ·)
  | _ => none
theorem bools_rel {K : PySem.W.Frag} {P : Option Addr} {F : Hp} : ∀ {vs : List VV} {ds : List D} {ns : List Bool}, DRs K P F vs ds → boolsOf ds = some ns → vs = ns.map V.bl
  | _, _, ns, .nil, e => by cases e; rfl
  | _, _, ns, .cons (d := d) (ds := ds) h t, e => by
    cases d with
    | bl i =>
      have e' : (boolsOf ds).map (i :: ·) = some ns := e
      cases q : boolsOf ds with
      | none => rw [q] at e'; cases e'
      | some ms =>
        rw [q] at e'
        cases e'
        cases h
        rw [bools_rel t q]
        rfl
    | _ => cases e
def gSum : List D → Option D
  | [.lst ds] => (intsOf ds).map fun ns => .int ns.sum
  | _ => none
theorem cv_sum : CallV X.K P (rSum X.K) gSum := by
  intro F H xs ds c Q fh hd hg q
  unfold gSum at hg
  split at hg
  · rename_i es
    cases hi : intsOf es with
    | none => rw [hi] at hg; cases hg
    | some ns =>
      rw [hi] at hg
      cases hg
      cases hd with | cons h t => cases t; obtain ⟨a, vs, rfl, ha, ra⟩ := h.lst fh; exact ⟨a, ns, rfl, by rw [← ints_rel ra hi]; exact .of ha, q _ F H (.refl fh) (.int _)⟩
  · cases hg
def maxI : List Int → Int
  | [] => 0
  | [x] => x
  | x :: y :: r => max x (maxI (y :: r))
theorem maxI_le : ∀ {ns : List Int} {y : Int}, y ∈ ns → y ≤ maxI ns
  | [x], y, h => by
    have : y = x := by simpa using h
    rw [this]
    exact Int.le_refl _
  | x :: z :: r, y, h => by
    show y ≤ max x (maxI (z :: r))
    rcases List.mem_cons.mp h with e | e
    · rw [e]; exact Int.le_max_left ..
    · exact Int.le_trans (maxI_le e) (Int.le_max_right ..)
theorem maxI_mem : ∀ {ns : List Int}, ns ≠ [] → maxI ns ∈ ns
  | [x], _ => by simp [maxI]
  | x :: z :: r, _ => by
    show max x (maxI (z :: r)) ∈ _
    rcases Int.le_total x (maxI (z :: r)) with e | e
    · rw [Int.max_eq_right e]
      exact List.mem_cons_of_mem _ (maxI_mem (by simp))
    · rw [Int.max_eq_left e]
      exact List.mem_cons_self
def gMaxL : List D → Option D
  | [.lst (d :: ds)] => (intsOf (d :: ds)).map fun ns => .int (maxI ns)
  | _ => none
theorem cv_maxL : CallV X.K P (rMax X.K) gMaxL := by
  intro F H xs ds c Q fh hd hg q
  unfold gMaxL at hg
  split at hg
  · rename_i d es
    cases hi : intsOf (d :: es) with
    | none => rw [hi] at hg; cases hg
    | some ns =>
      rw [hi] at hg
      cases hg
      cases hd with
      | cons h t =>
        cases t
        obtain ⟨a, vs, rfl, ha, ra⟩ := h.lst fh
        have ev := ints_rel ra hi
        have ne : ns ≠ [] := fun z => by
          subst z
          have := ra.length
          rw [ev] at this
          simp at this
        refine ⟨a, ns, rfl, by rw [← ev]; exact .of ha, List.length_pos_iff.mpr ne, fun m hm hle => ?_⟩
        have : m = maxI ns := Int.le_antisymm (maxI_le hm) (hle _ (maxI_mem ne))
        rw [this]
        exact q _ F H (.refl fh) (.int _)
  · cases hg
def gAll : List D → Option D
  | [.lst ds] => (boolsOf ds).map fun ns => .bl (ns.all id)
  | _ => none
def gAny : List D → Option D
  | [.lst ds] => (boolsOf ds).map fun ns => .bl (ns.any id)
  | _ => none
theorem cv_all : CallV X.K P (rAll X.K) gAll := by
  intro F H xs ds c Q fh hd hg q
  unfold gAll at hg
  split at hg
  · rename_i es
    cases hi : boolsOf es with
    | none => rw [hi] at hg; cases hg
    | some ns =>
      rw [hi] at hg
      cases hg
      cases hd with | cons h t => cases t; obtain ⟨a, vs, rfl, ha, ra⟩ := h.lst fh; exact ⟨a, ns, rfl, by rw [← bools_rel ra hi]; exact .of ha, q _ F H (.refl fh) (.bl _)⟩
  · cases hg
theorem cv_any : CallV X.K P (rAny X.K) gAny := by
  intro F H xs ds c Q fh hd hg q
  unfold gAny at hg
  split at hg
  · rename_i es
    cases hi : boolsOf es with
    | none => rw [hi] at hg; cases hg
    | some ns =>
      rw [hi] at hg
      cases hg
      cases hd with | cons h t => cases t; obtain ⟨a, vs, rfl, ha, ra⟩ := h.lst fh; exact ⟨a, ns, rfl, by rw [← bools_rel ra hi]; exact .of ha, q _ F H (.refl fh) (.bl _)⟩
  · cases hg
def seqOf : D → Option (List D)
  | .lst ds => some ds
  | .tup ds => some ds
  | .scr ns => some (ns.map .int)
  | _ => none
theorem seq_rel {K : PySem.W.Frag} {F H : Hp} {v : VV} {d : D} {ds : List D} (h : DB K P F H v d) (fh : Same F H) (e : seqOf d = some ds) : ∃ a vs, v = .ref a ∧ (SqL K H a vs ∨ SqT K H a vs) ∧ DRs K P F vs ds := by
  unfold seqOf at e
  split at e
  · cases e
    obtain ⟨a, vs, rfl, ha, ra⟩ := h.lst fh
    exact ⟨a, vs, rfl, .inl (.of ha), ra⟩
  · cases e
    obtain ⟨a, vs, rfl, ha, ra⟩ := h.tup fh
    exact ⟨a, vs, rfl, .inr ha, ra⟩
  · cases e
    obtain ⟨a, rfl, ha⟩ := h.scr fh
    exact ⟨a, _, rfl, .inl ha, scr_drs _⟩
  · cases e
def gList : List D → Option D
  | [d] => (seqOf d).map .lst
  | _ => none
theorem cv_list : CallV X.K P (fun xs H Q => ∃ p ys, xs = [.ref p] ∧ (SqL X.K H p ys ∨ SqT X.K H p ys) ∧ ∀ l, H l = none → Q (.ref l) (upd H l (.lst ys))) gList := by
  intro F H xs ds c Q fh hd hg q
  unfold gList at hg
  split at hg
  · rename_i d
    cases hi : seqOf d with
    | none => rw [hi] at hg; cases hg
    | some ns =>
      rw [hi] at hg
      cases hg
      cases hd with
      | cons h t =>
        cases t
        obtain ⟨a, vs, rfl, ha, ra⟩ := seq_rel h fh hi
        refine ⟨a, vs, rfl, ha, fun l nl => ?_⟩
        have g := Grow.upd (o := .lst vs) fh nl
        exact q _ _ _ g (.lst upd_same (ra.mono g.ff))
  · cases hg
def gTuple : List D → Option D
  | [.lst ds] => some (.tup ds)
  | [.scr ns] => some (.tup (ns.map .int))
  | [.tup ds] => some (.tup ds)
  | _ => none
theorem cv_tuple : CallV X.K P (fun xs H Q => ∃ p ys, xs = [.ref p] ∧ ((SqL X.K H p ys ∧ ∀ l, H l = none → Q (.ref l) (upd H l (.tup ys))) ∨ (SqT X.K H p ys ∧ Q (.ref p) H))) gTuple := by
  intro F H xs ds c Q fh hd hg q
  unfold gTuple at hg
  split at hg
  · cases hg
    cases hd with
    | cons h t =>
      cases t
      obtain ⟨a, vs, rfl, ha, ra⟩ := h.lst fh
      refine ⟨a, vs, rfl, .inl ⟨.of ha, fun l nl => ?_⟩⟩
      have g := Grow.upd (o := .tup vs) fh nl
      exact q _ _ _ g (.tup (.inl (.inl upd_same)) (ra.mono g.ff))
  · rename_i ns
    cases hg
    cases hd with
    | cons h t =>
      cases t
      obtain ⟨a, rfl, ha⟩ := h.scr fh
      refine ⟨a, _, rfl, .inl ⟨ha, fun l nl => ?_⟩⟩
      have g := Grow.upd (o := .tup (ns.map V.int)) fh nl
      exact q _ _ _ g (.tup (.inl (.inl upd_same)) ((scr_drs _).mono g.ff))
  · cases hg
    cases hd with
    | cons h t =>
      cases t
      have h0 := h
      obtain ⟨a, vs, rfl, ha, ra⟩ := h.tup fh
      refine ⟨a, vs, rfl, .inr ⟨ha, q _ F H (.refl fh) ?_⟩⟩
      rcases h0 with h | ⟨a', ev, _, w⟩
      · exact h
      · exact (show False from w).elim
  · cases hg
def gDivmod : List D → Option D
  | [.int i, .int j] => if 0 < j ∧ j.natAbs.log2 < 9000 then some (.tup [.int (i / j), .int (i % j)]) else none
  | _ => none
theorem cv_divmod : CallV X.K P (fun xs H Q => ∃ i j, xs = [.int i, .int j] ∧ CDivP i j ∧ ∀ p, H p = none → Q (.ref p) (upd H p (.tup [.int (i / j), .int (i % j)]))) gDivmod := by
  intro F H xs ds c Q fh hd hg q
  unfold gDivmod at hg
  split at hg
  · rename_i i j
    split at hg
    · rename_i hl
      cases hg
      cases hd with
      | cons h t =>
        cases t with
        | cons h2 t2 =>
          cases t2
          have e1 := h.int
          have e2 := h2.int
          subst e1
          subst e2
          refine ⟨i, j, rfl, ⟨hl.1, PyProof.noPylong_of_log2 hl.2⟩, fun p np => ?_⟩
          have g := Grow.upd (o := .tup [.int (i / j), .int (i % j)]) fh np
          exact q _ _ _ g (.tup (.inl (.inl upd_same)) (.cons (.int _) (.cons (.int _) .nil)))
    · cases hg
  · cases hg
end
end VS
end
section
set_option Elab.async false
set_option linter.all false
set_option maxRecDepth 100000
set_option maxHeartbeats 4000000
namespace VS
open PySem PySem.Spec PyProof.Rows L2
section
variable {K : PySem.W.Frag} {P : Option Addr} {F F0 F' H0 H H' : Hp} {σ : St} {s s' : S}
theorem SR.noOw (h : SR K P F0 H0 F σ H s) {a : Addr} (n : H a = none) : NoOw σ s a := fun i d e z => by
  obtain ⟨o, eo, a', ea, fa, pa, r⟩ := h.there e
  rw [z] at eo
  cases eo
  cases ea
  obtain ⟨u, hu⟩ := r.there
  rw [n] at hu
  cases hu
theorem Ex.none {a : Addr} (x : Ex P σ F H s F' H' s') (n : H' a = none) (pa : P ≠ some a) : H a = none := by
  cases q : H a with
  | none => rfl
  | some o =>
    rcases x.hh a o q with z | z
    · exact absurd z pa
    · rw [n] at z
      cases z
theorem NoOw.ex {a : Addr} (h : NoOw σ s a) {σ' : St} (x : Ex P σ' F H s F' H' s') : NoOw σ s' a := fun i d e => h i d (x.ow i d e)
/-- a slot changes, not to an owned one -/
theorem SR.put' (h : SR K P F0 H0 F σ H s) {i : Nat} {o : Option VV} {l : Sl} (r : SlR K P F H0 H o l) (nl : ∀ d, l ≠ .ow d) : SR K P F0 H0 F (σ.set i o) H { s with sl := s.sl.set i l } := by
  have key : ∀ {j : Nat} {d' : D}, (s.sl.set i l)[j]? = some (.ow d') → j ≠ i ∧ s.sl[j]? = some (.ow d') := fun {j d'} e => by
    by_cases hj : i = j
    · subst hj
      rw [List.getElem?_set] at e
      split at e
      · split at e
        · exact absurd (Option.some.inj e) (nl d')
        · cases e
      · contradiction
    · rw [List.getElem?_set_ne hj] at e
      exact ⟨Ne.symm hj, e⟩
  refine ⟨h.hr, by simp [h.len], fun j o' l' e1 e2 => ?_, fun j k a d1 d2 e1 e2 e3 e4 => ?_, fun j a d' e1 e2 => ?_⟩
  · by_cases hj : i = j
    · subst hj
      have h1 : i < σ.length := by
        have := (List.getElem?_eq_some_iff.mp e1).1
        simpa using this
      have h2 : i < s.sl.length := by rw [← h.len]; exact h1
      rw [List.getElem?_set_self h1] at e1
      rw [List.getElem?_set_self h2] at e2
      cases e1
      cases e2
      exact r
    · rw [List.getElem?_set_ne hj] at e1 e2
      exact h.sl j o' l' e1 e2
  · obtain ⟨n1, q1⟩ := key e2
    obtain ⟨n2, q2⟩ := key e4
    rw [List.getElem?_set_ne (Ne.symm n1)] at e1
    rw [List.getElem?_set_ne (Ne.symm n2)] at e3
    exact h.dist j k a d1 d2 e1 q1 e3 q2
  · obtain ⟨n1, q1⟩ := key e2
    rw [List.getElem?_set_ne (Ne.symm n1)] at e1
    exact h.new j a d' e1 q1
/-- a slot gets a fresh object -/
theorem SR.own (h : SR K P F0 H0 F σ H s) {i : Nat} {a : Addr} {d : D} (fa : F a = none) (pa : P ≠ some a) (ha : H0 a = none) (no : NoOw σ s a) (r : OwR K P F H a d) : SR K P F0 H0 F (σ.set i (some (.ref a))) H { s with sl := s.sl.set i (.ow d) } := by
  refine ⟨h.hr, by simp [h.len], fun j o' l' e1 e2 => ?_, fun j k b d1 d2 e1 e2 e3 e4 => ?_, fun j b d' e1 e2 => ?_⟩
  · by_cases hj : i = j
    · subst hj
      have h1 : i < σ.length := by
        have := (List.getElem?_eq_some_iff.mp e1).1
        simpa using this
      have h2 : i < s.sl.length := by rw [← h.len]; exact h1
      rw [List.getElem?_set_self h1] at e1
      rw [List.getElem?_set_self h2] at e2
      cases e1
      cases e2
      exact ⟨a, rfl, fa, pa, r⟩
    · rw [List.getElem?_set_ne hj] at e1 e2
      exact h.sl j o' l' e1 e2
  · by_cases hj : i = j
    · by_cases hk : i = k
      · rw [← hj, hk]
      · subst hj
        have h1 : i < σ.length := by
          have := (List.getElem?_eq_some_iff.mp e1).1
          simpa using this
        rw [List.getElem?_set_self h1] at e1
        cases e1
        rw [List.getElem?_set_ne hk] at e3 e4
        exact absurd e3 (no k d2 e4)
    · by_cases hk : i = k
      · subst hk
        have h1 : i < σ.length := by
          have := (List.getElem?_eq_some_iff.mp e3).1
          simpa using this
        rw [List.getElem?_set_self h1] at e3
        cases e3
        rw [List.getElem?_set_ne hj] at e1 e2
        exact absurd e1 (no j d1 e2)
      · rw [List.getElem?_set_ne hj] at e1 e2
        rw [List.getElem?_set_ne hk] at e3 e4
        exact h.dist j k b d1 d2 e1 e2 e3 e4
  · by_cases hj : i = j
    · subst hj
      have h1 : i < σ.length := by
        have := (List.getElem?_eq_some_iff.mp e1).1
        simpa using this
      rw [List.getElem?_set_self h1] at e1
      cases e1
      exact ha
    · rw [List.getElem?_set_ne hj] at e1 e2
      exact h.new j b d' e1 e2
/-- an unsettled object that no slot owns is written -/
theorem SR.side (h : SR K P F0 H0 F σ H s) {a : Addr} {u : HO} (fa : F a = none) (pa : P ≠ some a) (ha : H0 a = none) (no : NoOw σ s a) : SR K P F0 H0 F σ (upd H a u) s := by
  refine ⟨⟨⟨h.hr.g.ff, fun b o e => ?_, fun b o e => ?_, h.hr.g.nf⟩, fun x y e => ?_, h.hr.pn⟩, h.len, fun j o l e1 e2 => ?_, h.dist, h.new⟩
  · have : b ≠ a := fun z => by rw [z, ha] at e; cases e
    rcases h.hr.g.hh b o e with z | z
    · exact .inl z
    · exact .inr (by rw [upd_ne this]; exact z)
  · have : b ≠ a := fun z => by rw [z, fa] at e; cases e
    rw [upd_ne this]
    exact h.hr.sub b o e
  · obtain ⟨p, e1, e2, e3⟩ := h.hr.pot x y e
    exact ⟨p, e1, e2, by rw [upd_ne (fun z => pa (by rw [e1, z]))]; exact e3⟩
  · have q := h.sl j o l e1 e2
    cases l with
    | un => exact True.intro
    | sh d => exact q
    | ow d =>
      obtain ⟨b, ev, fb, pb, r⟩ := q
      subst ev
      refine ⟨b, rfl, fb, pb, r.mono (Same.refl _) fun o z => ?_⟩
      rw [upd_ne (fun z => no j d e2 (by rw [← z]; exact e1))]
      exact z
/-- an owned slot's object is written -/
theorem SR.write (h : SR K P F0 H0 F σ H s) {i : Nat} {a : Addr} {d d' : D} {u : HO} (es : s.sl[i]? = some (.ow d)) (eσ : σ[i]? = some (some (.ref a))) (r : OwR K P F (upd H a u) a d') : SR K P F0 H0 F σ (upd H a u) { s with sl := s.sl.set i (.ow d') } := by
  obtain ⟨o, eo, a', ea, fa, pa, _⟩ := h.there es
  rw [eσ] at eo
  cases eo
  cases ea
  have ha := h.new i a d eσ es
  have h1 : SR K P F0 H0 F (σ.set i none) H { s with sl := s.sl.set i .un } := h.put' True.intro fun d z => by cases z
  have no : NoOw (σ.set i none) { s with sl := s.sl.set i .un } a := fun j d2 e2 e1 => by
    by_cases hj : i = j
    · subst hj
      rw [List.getElem?_set_self (List.getElem?_eq_some_iff.mp es).1] at e2
      cases e2
    · rw [List.getElem?_set_ne hj] at e1
      have e2' : (s.sl.set i .un)[j]? = some (.ow d2) := e2
      rw [List.getElem?_set_ne hj] at e2'
      exact hj (h.dist i j a d d2 eσ es e1 e2')
  have h2 := (h1.side (u := u) fa pa ha no).own (i := i) (a := a) (d := d') fa pa ha no r
  have e3 : (σ.set i none).set i (some (.ref a)) = σ := by
    rw [List.set_set]
    exact set_same eσ
  rw [e3] at h2
  have e4 : (s.sl.set i .un).set i (.ow d') = s.sl.set i (.ow d') := List.set_set ..
  have h3 : SR K P F0 H0 F σ (upd H a u) { s with sl := (s.sl.set i .un).set i (.ow d') } := h2
  rw [e4] at h3
  exact h3
/-- the pot is written -/
theorem SR.potset (h : SR K P F0 H0 F σ H s) {p : Addr} {x y x' y' : Int} (hp : P = some p) (es : s.pot = some (x, y)) : SR K P F0 H0 F σ (upd H p (.lst [.int x', .int y'])) { s with pot := some (x', y') } := by
  obtain ⟨p', e1, e2, e3⟩ := h.hr.pot x y es
  rw [hp] at e1
  cases e1
  refine ⟨⟨⟨h.hr.g.ff, fun b o e => ?_, fun b o e => ?_, h.hr.g.nf⟩, fun x2 y2 e => ?_, fun q e => ⟨x', y', rfl⟩⟩, h.len, fun j o l e1 e2 => ?_, h.dist, h.new⟩
  · by_cases hb : b = p
    · rw [hb]
      exact .inl hp
    · rcases h.hr.g.hh b o e with z | z
      · exact .inl z
      · exact .inr (by rw [upd_ne hb]; exact z)
  · have : b ≠ p := fun z => by rw [z, e2] at e; cases e
    rw [upd_ne this]
    exact h.hr.sub b o e
  · have e : some (x', y') = some (x2, y2) := e
    cases e
    exact ⟨p, hp, e2, upd_same⟩
  · have q := h.sl j o l e1 e2
    cases l with
    | un => exact True.intro
    | sh d => exact q
    | ow d =>
      obtain ⟨b, ev, fb, pb, r⟩ := q
      refine ⟨b, ev, fb, pb, r.mono (Same.refl _) fun o z => ?_⟩
      rw [upd_ne (fun z => pb (by rw [hp, z]))]
      exact z
end
/-! ### fresh objects -/
def tN (K : PySem.W.Frag) (P : Option Addr) (F0 H0 : Hp) (f : Sem1 D) : TE := fun σ H Q => ∃ F s d s', SR K P F0 H0 F σ H s ∧ f s = some (d, s') ∧
  ∀ a F' H', Ex P σ F H s F' H' s' → SR K P F0 H0 F' σ H' s' → H a = none → F' a = none → P ≠ some a → H0 a = none → NoOw σ s' a → OwR K P F' H' a d → Q (.ref a) H'
section
variable {X : Cx} {P : Option Addr} {F0 H0 : Hp} {pos : Pos}
/-- settled at once -/
theorem v_N {e : Expr} {f : Sem1 D} (h : PE X e (tN X.K P F0 H0 f)) : PE X e (tV X.K P F0 H0 f) := by
  refine PE.con h fun σ H Q ⟨F, s, d, s', r, e, q⟩ => ⟨F, s, d, s', r, e, fun a F1 H1 x1 r1 na fa pa ha no w => ?_⟩
  obtain ⟨u, hu⟩ := w.there
  have ff : Same F1 (upd F1 a u) := fun b z k => by
    rw [upd_ne (ne_of_none k fa)]
    exact k
  have dr : DR X.K P (upd F1 a u) (.ref a) d := by
    cases d with
    | lst ds =>
      obtain ⟨vs, k, w⟩ := w
      rw [hu] at k
      cases k
      exact .lst upd_same (w.mono ff)
    | ins C ns ds =>
      obtain ⟨dx, fs, k, n, w⟩ := w
      rw [hu] at k
      cases k
      exact .ins upd_same n (w.mono ff)
    | _ => exact (show False from w).elim
  refine q (.ref a) (upd F1 a u) H1 ⟨x1.ff.trans ff, x1.hh, x1.ow, fun b hp hh hf no => by rw [upd_ne (fun z => hh (by rw [z]; exact na))]; exact x1.nf b hp hh hf no⟩ ?_ dr
  refine ⟨⟨⟨r1.hr.g.ff.trans ff, r1.hr.g.hh, fun b o k => ?_, fun b k => ?_⟩, fun x y k => ?_, r1.hr.pn⟩, r1.len, fun j o l e1 e2 => ?_, r1.dist, r1.new⟩
  · by_cases hb : b = a
    · subst hb
      rw [upd_same] at k
      cases k
      exact hu
    · rw [upd_ne hb] at k
      exact r1.hr.sub b o k
  · by_cases hb : b = a
    · rw [hb]
      exact .inr ha
    · rw [upd_ne hb] at k
      exact r1.hr.g.nf b k
  · obtain ⟨p, e1, e2, e3⟩ := r1.hr.pot x y k
    refine ⟨p, e1, ?_, e3⟩
    rw [upd_ne (fun z => pa (by rw [e1, z]))]
    exact e2
  · have k := r1.sl j o l e1 e2
    cases l with
    | un => exact True.intro
    | sh d =>
      obtain ⟨v, ev, w⟩ := k
      exact ⟨v, ev, w.mono ff⟩
    | ow d =>
      obtain ⟨b, ev, fb, pb, w⟩ := k
      subst ev
      refine ⟨b, rfl, ?_, pb, w.mono ff fun _ z => z⟩
      rw [upd_ne (fun z => no j d e2 (by rw [← z]; exact e1))]
      exact fb
theorem n_lst {es : List Expr} {f : Sem1 (List D)} (h : PA X es (tA X.K P F0 H0 f)) : PE X (.List es pos) (tN X.K P F0 H0 (eLst f)) := by
  refine PE.con (pe_lst h) fun σ H Q ⟨F, s, d, s', r, e, q⟩ => ?_
  unfold eLst at e
  split at e
  · rename_i ds s1 e1
    split at e
    · rename_i hl
      cases e
      refine ⟨F, s, ds, s', r, e1, fun vs F1 H1 x1 r1 d1 => ⟨by rw [d1.length]; exact le_lim hl, fun p np => ?_⟩⟩
      have g := Grow.updH (o := .lst vs) r1.hr.sub np
      obtain ⟨a1, a2, a3⟩ := r1.hr.free np
      exact q p F1 _ (x1.trans g.ex) (r1.grow g) (x1.none np a2) a3 a2 a1 (r1.noOw np) ⟨vs, upd_same, d1⟩
    · cases e
  · cases e
theorem n_rep {a b : Expr} {f f' : Sem1 D} (ha : PE X a (tVB X.K P F0 H0 f)) (hb : PE X b (tVB X.K P F0 H0 f')) : PE X (.BinOp a .Mult b pos) (tN X.K P F0 H0 (e2 gRep f f')) := by
  refine PE.con (pe_op op_rep ha hb) fun σ H Q ⟨F, s, c, s', r0, e, q⟩ => ?_
  unfold e2 at e
  split at e
  · rename_i d s1 e1
    split at e
    · rename_i d' s2 e2
      split at e
      · rename_i c' e3
        cases e
        refine ⟨F, s, d, s1, r0, e1, fun v F1 H1 x1 r1 d1 => ⟨F1, s1, d', s', r1, e2, fun v2 F2 H2 x2 r2 d2 => ?_⟩⟩
        have hx := d1.mono x2
        unfold gRep at e3
        split at e3
        · rename_i ds k
          split at e3
          · rename_i hl
            cases e3
            obtain ⟨a, vs, rfl, ha, ra⟩ := hx.lst r2.hr.sub
            have ey := d2.int
            subst ey
            refine ⟨a, k, vs, rfl, rfl, ha, hl.1, hl.2.1, by rw [ra.length]; exact le_lim hl.2.2, fun p np => ?_⟩
            have g := Grow.updH (o := .lst (List.replicate k.toNat vs).flatten) r2.hr.sub np
            obtain ⟨a1, a2, a3⟩ := r2.hr.free np
            exact q p F2 _ ((x1.trans x2).trans g.ex) (r2.grow g) ((x1.trans x2).none np a2) a3 a2 a1 (r2.noOw np) ⟨_, upd_same, ra.rep _⟩
          · cases e3
        · cases e3
      · cases e
    · cases e
  · cases e
theorem n_list {f : Sem1 (List D)} {x : Str} {p pos : Pos} {e : Expr} {es : List Expr} (hm : X.mg x = none) (ha : PA X (e :: es) (tAB X.K P F0 H0 f))
    (hg : Gl X x := by rfl) (hv : bootBuiltins x = some (.type "list") := by decide +kernel) (hn : x ≠ "__name__" := by decide) (hdb : (x == ("__debug__" : Str)) = false := by decide)
    (he : starEach (e :: es) X.env = (false, eval e X.env) :: starEach es X.env := by rfl) (hpl : (backTo pos (starEach es X.env)).any (·.1) = false := by rfl) : PE X (.Call (.Name x p) (e :: es) [] pos) (tN X.K P F0 H0 (eL gList f)) := by
  refine PE.con (pe_callTy call_list_of hg hm hv ha hn hdb he hpl) fun σ H Q ⟨F, s, c, s', r0, e, q⟩ => ?_
  unfold eL at e
  split at e
  · rename_i ds s1 e1
    split at e
    · rename_i c' ec
      cases e
      refine ⟨F, s, ds, s', r0, e1, fun vs F1 H1 x1 r1 d1 => ?_⟩
      unfold gList at ec
      split at ec
      · rename_i d
        cases hi : seqOf d with
        | none => rw [hi] at ec; cases ec
        | some ns =>
          rw [hi] at ec
          cases ec
          cases d1 with
          | cons h t =>
            cases t
            obtain ⟨a, vs, rfl, ha, ra⟩ := seq_rel h r1.hr.sub hi
            refine ⟨a, vs, rfl, ha, fun l nl => ?_⟩
            have g := Grow.updH (o := .lst vs) r1.hr.sub nl
            obtain ⟨a1, a2, a3⟩ := r1.hr.free nl
            exact q l F1 _ (x1.trans g.ex) (r1.grow g) (x1.none nl a2) a3 a2 a1 (r1.noOw nl) ⟨vs, upd_same, ra⟩
      · cases ec
    · cases e
  · cases e
end
/-! ### statements -/
def gNil : S → Option Fl := fun s => some (.nx s)
def gSeq (g g' : S → Option Fl) : S → Option Fl := fun s => match g s with
  | some (.nx s1) => g' s1
  | r => r
section
variable {X : Cx} {P : Option Addr} {F0 H0 : Hp} {pos : Pos}
theorem s_nil : PSs X [] (tS X.K P F0 H0 gNil) := PSs.con pss_nil fun D σ H ⟨F, s, r, w, e, q⟩ => by
  cases e
  exact q σ F H (Same.refl _) w
theorem s_cons {st : Stmt} {rest : List Stmt} {g g' : S → Option Fl} (h1 : PS X st (tS X.K P F0 H0 g)) (h2 : PSs X rest (tS X.K P F0 H0 g')) : PSs X (st :: rest) (tS X.K P F0 H0 (gSeq g g')) := by
  refine PSs.con (pss_cons h1 h2) fun D σ H ⟨F, s, r, w, e, q⟩ => ?_
  unfold gSeq at e
  split at e
  · rename_i s1 e1
    refine ⟨F, s, .nx s1, w, e1, fun σ1 F1 H1 f1 r1 => ⟨F1, s1, r, r1, e, ?_⟩⟩
    exact q.mono f1
  · rename_i n1
    cases r with
    | nx s2 => exact absurd e (n1 s2)
    | rt d pt => exact ⟨F, s, .rt d pt, w, e, q⟩
theorem s_one {st : Stmt} {g : S → Option Fl} (h1 : PS X st (tS X.K P F0 H0 g)) : PSs X [st] (tS X.K P F0 H0 g) := pss_one h1
def gRet (f : Sem1 D) : S → Option Fl := fun s => match f s with
  | some (d, s1) => some (.rt d s1.pot)
  | none => none
theorem s_ret {e : Expr} {f : Sem1 D} (he : PE X e (tV X.K P F0 H0 f)) : PS X (.Return (some e) pos) (tS X.K P F0 H0 (gRet f)) := by
  refine PS.con (ps_ret he) fun D σ H ⟨F, s, r, w, e, q⟩ => ?_
  unfold gRet at e
  split at e
  · rename_i d s1 e1
    cases e
    exact ⟨F, s, d, s1, w, e1, fun v F1 H1 x1 r1 d1 => q v F1 H1 r1.hr d1⟩
  · cases e
def gDrop (f : Sem1 D) : S → Option Fl := fun s => match f s with
  | some (_, s1) => some (.nx s1)
  | none => none
theorem s_expr {e : Expr} {f : Sem1 D} (he : PE X e (tV X.K P F0 H0 f)) (hs : swapsWith e none pos.line X.env = pure false := by rfl) : PS X (.Expr e pos) (tS X.K P F0 H0 (gDrop f)) := by
  refine PS.con (ps_expr he hs) fun D σ H ⟨F, s, r, w, e, q⟩ => ?_
  unfold gDrop at e
  split at e
  · rename_i d s1 e1
    cases e
    exact ⟨F, s, d, s1, w, e1, fun v F1 H1 x1 r1 d1 => q σ F1 H1 x1.ff r1⟩
  · cases e
theorem s_never {st : Stmt} : PS X st (tS X.K P F0 H0 fun _ => none) := PS.con ps_never fun D σ H ⟨F, s, r, w, e, q⟩ => by cases e
def gIf (t : Sem1 Bool) (g g' : S → Option Fl) : S → Option Fl := fun s => match t s with
  | some (true, s1) => g s1
  | some (false, s1) => g' s1
  | none => none
theorem s_if {c : Expr} {a b : List Stmt} {t : Sem1 Bool} {g g' : S → Option Fl} (hc : PT X c (tT X.K P F0 H0 t)) (ha : PSs X a (tS X.K P F0 H0 g)) (hb : PSs X b (tS X.K P F0 H0 g')) : PS X (.If c a b pos) (tS X.K P F0 H0 (gIf t g g')) := by
  refine PS.con (ps_if hc ha hb) fun D σ H ⟨F, s, r, w, e, q⟩ => ?_
  unfold gIf at e
  split at e
  · rename_i s1 e1
    exact ⟨F, s, true, s1, w, e1, fun F1 H1 x1 r1 => iteT ⟨F1, s1, r, r1, e, q.mono x1.ff⟩⟩
  · rename_i s1 e1
    exact ⟨F, s, false, s1, w, e1, fun F1 H1 x1 r1 => iteF ⟨F1, s1, r, r1, e, q.mono x1.ff⟩⟩
  · cases e
/-! ### targets -/
abbrev Tg := D → S → Option S
def tG (K : PySem.W.Frag) (P : Option Addr) (F0 H0 : Hp) (t : Tg) : TG := fun v σ H Q => ∃ F s d s', SR K P F0 H0 F σ H s ∧ DR K P F v d ∧ t d s = some s' ∧ ∀ σ' F' H', Same F F' → SR K P F0 H0 F' σ' H' s' → Q σ' H'
def tGs (K : PySem.W.Frag) (P : Option Addr) (F0 H0 : Hp) (t : List D → S → Option S) : TGs := fun vs σ H Q => ∃ F s ds s', SR K P F0 H0 F σ H s ∧ DRs K P F vs ds ∧ t ds s = some s' ∧ ∀ σ' F' H', Same F F' → SR K P F0 H0 F' σ' H' s' → Q σ' H'
theorem PG.con {e : Expr} {t t' : TG} (h : PG X e t) (i : ∀ v σ H Q, t' v σ H Q → t v σ H Q) : PG X e t' := ⟨fun pins s σ H v u Q I r q => h.run pins s σ H v u Q I r (i _ _ _ _ q)⟩
theorem PGs.con {e : List Expr} {t t' : TGs} (h : PGs X e t) (i : ∀ v σ H Q, t' v σ H Q → t v σ H Q) : PGs X e t' := ⟨fun pins s σ H v u Q I r q => h.run pins s σ H v u Q I r (i _ _ _ _ q)⟩
def tgName (i : Nat) : Tg := fun d s => some { s with sl := s.sl.set i (.sh d) }
theorem g_name (i : Nat) {x : Str} (hN : X.N.Nodup) (hi : X.N[i]? = some x := by rfl) (hx : Loc X.env.scope x := by first | exact .inl rfl | exact .inr rfl) (hf : X.fn x = true ∨ X.env.scope.names.lookup x = some .local := by first | exact .inl rfl | exact .inr rfl) : PG X (.Name x pos) (tG X.K P F0 H0 (tgName i)) := by
  refine PG.con (pg_name hN hi hx hf) fun v σ H Q ⟨F, s, d, s', w, dv, e, q⟩ => ?_
  cases e
  exact q _ F H (Same.refl _) (w.put dv)
def tgNil : List D → S → Option S
  | [], s => some s
  | _, _ => none
def tgCons (t : Tg) (u : List D → S → Option S) : List D → S → Option S
  | d :: ds, s => match t d s with
    | some s1 => u ds s1
    | none => none
  | _, _ => none
theorem g_nil : PGs X [] (tGs X.K P F0 H0 tgNil) := PGs.con pgs_nil fun vs σ H Q ⟨F, s, ds, s', w, dv, e, q⟩ => by
  cases dv with
  | nil =>
    cases e
    exact ⟨rfl, q σ F H (Same.refl _) w⟩
  | cons h t => cases e
theorem g_cons {e : Expr} {es : List Expr} {t : Tg} {u : List D → S → Option S} (h1 : PG X e (tG X.K P F0 H0 t)) (h2 : PGs X es (tGs X.K P F0 H0 u))
    (hs : (assignEach (e :: es) X.env).map (·.2) = assign e X.env :: (assignEach es X.env).map (·.2) := by rfl) : PGs X (e :: es) (tGs X.K P F0 H0 (tgCons t u)) := by
  refine PGs.con (pgs_cons h1 h2 hs) fun vs σ H Q ⟨F, s, ds, s', w, dv, e, q⟩ => ?_
  cases dv with
  | nil => cases e
  | @cons v0 d0 vs0 ds0 h t' =>
    have e' : (match t d0 s with
      | some s1 => u ds0 s1
      | none => none) = some s' := e
    cases e1 : t d0 s with
    | none =>
      rw [e1] at e'
      cases e'
    | some s1 =>
      rw [e1] at e'
      exact ⟨_, _, rfl, F, s, _, s1, w, h, e1, fun σ1 F1 H1 f1 r1 => ⟨F1, s1, _, s', r1, t'.mono f1, e', fun σ2 F2 H2 f2 r2 => q σ2 F2 H2 (f1.trans f2) r2⟩⟩
def tgTup (n : Nat) (u : List D → S → Option S) : Tg
  | .tup ds, s => if ds.length = n then u ds s else none
  | _, _ => none
def tgUnl (n : Nat) (u : List D → S → Option S) : Tg
  | .lst ds, s => if ds.length = n then u ds s else none
  | _, _ => none
theorem g_tup {es : List Expr} {k n : Nat} {u : List D → S → Option S} (hc : X.calm = true) (h : PGs X es (tGs X.K P F0 H0 u)) (hn : (assignEach es X.env).length = n := by rfl) (hst : (assignEach es X.env).findIdx? (·.1) = none := by rfl) : PG X (.Tuple es k pos) (tG X.K P F0 H0 (tgTup n u)) := by
  refine PG.con (pg_tup hc h hn hst) fun v σ H Q ⟨F, s, d, s', w, dv, e, q⟩ => ?_
  unfold tgTup at e
  split at e
  · split at e
    · rename_i hl
      cases dv with
      | tup hT hr => exact ⟨_, _, rfl, same_sqT w.hr.sub hT, by rw [hr.length]; exact hl, F, s, _, s', w, hr, e, q⟩
    · cases e
  · cases e
theorem g_unl {es : List Expr} {k n : Nat} {u : List D → S → Option S} (hc : X.calm = true) (h : PGs X es (tGs X.K P F0 H0 u)) (hn : (assignEach es X.env).length = n := by rfl) (hst : (assignEach es X.env).findIdx? (·.1) = none := by rfl) : PG X (.Tuple es k pos) (tG X.K P F0 H0 (tgUnl n u)) := by
  refine PG.con (pg_unl hc h hn hst) fun v σ H Q ⟨F, s, d, s', w, dv, e, q⟩ => ?_
  unfold tgUnl at e
  split at e
  · split at e
    · rename_i hl
      cases dv with
      | lst hT hr => exact ⟨_, _, rfl, .of (w.hr.sub _ _ hT), by rw [hr.length]; exact hl, F, s, _, s', w, hr, e, q⟩
    · cases e
  · cases e
/-- pot[0] = .., pot[1] = .. -/
def tgPot (i k : Nat) : Tg := fun d s => match s.sl[i]? with
  | some (.sh .pot) => match s.pot with
    | some (x, y) => match d with
      | .int n => match k with
        | 0 => some { s with pot := some (n, y) }
        | 1 => some { s with pot := some (x, n) }
        | _ => none
      | _ => none
    | none => none
  | _ => none
theorem g_pot (i k : Nat) {x : Str} {j : Nat} {p1 p2 : Pos} (hN : X.N[i]? = some x := by rfl) (hv : Vis X.env.scope x := by first | exact Or.inl rfl | exact Or.inr (Or.inl rfl) | exact Or.inr (Or.inr rfl))
    (hd : (x == ("__debug__" : Str)) = false := by decide) (hcd : (x == ("__classdict__" : Str)) = false := by decide) : PG X (.Subscript (.Name x p1) (.Constant (.int k) j p2) pos) (tG X.K P F0 H0 (tgPot i k)) := by
  refine PG.con (pg_sub (pe_var (i := i) hN hv hd hcd) pe_int set_list) fun v σ H Q ⟨F, s, d, s', w, dv, e, q⟩ => ?_
  unfold tgPot at e
  split at e
  · rename_i h1
    obtain ⟨o, eo, v', ev, dr⟩ := w.there h1
    subst ev
    cases hp' : s.pot with
    | none =>
      rw [hp'] at e
      cases e
    | some xy =>
      obtain ⟨x, y⟩ := xy
      rw [hp'] at e
      cases dr with
      | pot hp =>
        obtain ⟨p', a1, a2, a3⟩ := w.hr.pot x y hp'
        rw [hp] at a1
        cases a1
        cases dv with
        | int n =>
          dsimp only at e
          split at e
          · cases e
            exact ⟨_, eo, _, _, 0, 0, rfl, rfl, a3, rfl, q _ F _ (Same.refl _) (w.potset hp hp')⟩
          · cases e
            exact ⟨_, eo, _, _, 1, 1, rfl, rfl, a3, rfl, q _ F _ (Same.refl _) (w.potset hp hp')⟩
          · cases e
        | _ => cases e
  · cases e
/-- xs[i] = .. of an owned list -/
def tgIx (i : Nat) (f : Sem1 D) : Tg := fun d s => match s.sl[i]? with
  | some (.ow _) => match f s with
    | some (.int k, s1) => match s1.sl[i]? with
      | some (.ow (.lst ds)) => match ixN ds.length k with
        | some j => some { s1 with sl := s1.sl.set i (.ow (.lst (ds.set j d))) }
        | none => none
      | _ => none
    | _ => none
  | _ => none
theorem OwR.lst {K : PySem.W.Frag} {P : Option Addr} {F H : Hp} {a : Addr} {ds : List D} (h : OwR K P F H a (.lst ds)) : ∃ vs, H a = some (.lst vs) ∧ DRs K P F vs ds := h
theorem g_ix (i : Nat) {x : Str} {e : Expr} {f : Sem1 D} {p1 : Pos} (he : PE X e (tV X.K P F0 H0 f)) (hN : X.N[i]? = some x := by rfl) (hv : Vis X.env.scope x := by first | exact Or.inl rfl | exact Or.inr (Or.inl rfl) | exact Or.inr (Or.inr rfl))
    (hd : (x == ("__debug__" : Str)) = false := by decide) (hcd : (x == ("__classdict__" : Str)) = false := by decide)
    (ha : ∀ v, assign (.Subscript (.Name x p1) e pos) X.env v = (do
      let ov ← holding [v] (eval (.Name x p1) X.env)
      let iv ← holding [v, ov] (eval e X.env)
      standAt pos
      holding [v, ov, iv] (setItem ov iv v)
      release [v, ov, iv] []) := by intro _; rfl) : PG X (.Subscript (.Name x p1) e pos) (tG X.K P F0 H0 (tgIx i f)) := by
  refine PG.con (pg_sub (pe_var (i := i) hN hv hd hcd) he set_list ha) fun v σ H Q ⟨F, s, d, s', w, dv, e, q⟩ => ?_
  unfold tgIx at e
  split at e
  · rename_i d0 h0
    obtain ⟨o, eo, a, ea, fa, pa, _⟩ := w.there h0
    subst ea
    split at e
    · rename_i k s1 e1
      split at e
      · rename_i ds es
        split at e
        · rename_i j ej
          cases e
          refine ⟨.ref a, eo, F, s, .int k, s1, w, e1, fun kv F1 H1 x1 w1 dk => ?_⟩
          cases dk
          obtain ⟨o', eo', a', ea', _, _, r⟩ := w1.there es
          rw [eo] at eo'
          cases eo'
          cases ea'
          obtain ⟨vs, hvs, rr⟩ := r.lst
          refine ⟨a, vs, k, j, rfl, rfl, hvs, by rw [rr.length]; exact ej, ?_⟩
          exact q σ F1 _ x1.ff (w1.write es eo ⟨_, upd_same, DRs.set (dv.mono x1.ff) j rr⟩)
        · cases e
      · cases e
    · cases e
  · cases e
/-! ### assignments -/
def gAsg (f : Sem1 D) (t : Tg) : S → Option Fl := fun s => match f s with
  | some (d, s1) => match t d s1 with
    | some s2 => some (.nx s2)
    | none => none
  | none => none
theorem s_asg {tg e : Expr} {f : Sem1 D} {t : Tg} (he : PE X e (tV X.K P F0 H0 f)) (hg : PG X tg (tG X.K P F0 H0 t)) (hs : swapsWithSole [tg] e pos.line X.env = pure false := by rfl) (hw : swappedStores [tg] e X.env = pure none := by rfl)
    (h1 : (assignEach [tg] X.env).map (·.2) = [assign tg X.env] := by rfl) : PS X (.Assign [tg] e pos) (tS X.K P F0 H0 (gAsg f t)) := by
  refine PS.con (ps_asg he hg hs hw h1) fun D σ H ⟨F, s, r, w, e, q⟩ => ?_
  unfold gAsg at e
  split at e
  · rename_i d s1 e1
    split at e
    · rename_i s2 e2
      cases e
      exact ⟨F, s, d, s1, w, e1, fun v F1 H1 x1 w1 d1 => ⟨F1, s1, d, s2, w1, d1, e2, fun σ2 F2 H2 f2 w2 => q σ2 F2 H2 (x1.ff.trans f2) w2⟩⟩
    · cases e
  · cases e
theorem s_set (i : Nat) {x : Str} {e : Expr} {f : Sem1 D} {pos' : Pos} (hN : X.N.Nodup) (he : PE X e (tV X.K P F0 H0 f)) (hi : X.N[i]? = some x := by rfl) (hx : Loc X.env.scope x := by first | exact .inl rfl | exact .inr rfl) (hs : swapsWith e (some (.Name x pos')) pos.line X.env = pure false := by rfl)
    (hf : X.fn x = true ∨ X.env.scope.names.lookup x = some .local := by first | exact .inl rfl | exact .inr rfl) : PS X (.Assign [.Name x pos'] e pos) (tS X.K P F0 H0 (gAsg f (tgName i))) := by
  refine PS.con (ps_set hN hi hx he hs hf) fun D σ H ⟨F, s, r, w, e, q⟩ => ?_
  unfold gAsg tgName at e
  split at e
  · rename_i d s1 e1
    cases e
    exact ⟨F, s, d, s1, w, e1, fun v F1 H1 x1 w1 d1 => q _ F1 H1 x1.ff (w1.put d1)⟩
  · cases e
def gOwn (f : Sem1 D) (i : Nat) : S → Option Fl := fun s => match f s with
  | some (d, s1) => some (.nx { s1 with sl := s1.sl.set i (.ow d) })
  | none => none
theorem s_own (i : Nat) {x : Str} {e : Expr} {f : Sem1 D} {pos' : Pos} (hN : X.N.Nodup) (he : PE X e (tN X.K P F0 H0 f)) (hi : X.N[i]? = some x := by rfl) (hx : Loc X.env.scope x := by first | exact .inl rfl | exact .inr rfl) (hs : swapsWith e (some (.Name x pos')) pos.line X.env = pure false := by rfl)
    (hf : X.fn x = true ∨ X.env.scope.names.lookup x = some .local := by first | exact .inl rfl | exact .inr rfl) : PS X (.Assign [.Name x pos'] e pos) (tS X.K P F0 H0 (gOwn f i)) := by
  refine PS.con (ps_set hN hi hx he hs hf) fun D σ H ⟨F, s, r, w, e, q⟩ => ?_
  unfold gOwn at e
  split at e
  · rename_i d s1 e1
    cases e
    exact ⟨F, s, d, s1, w, e1, fun a F1 H1 x1 w1 na fa pa ha no r => q _ F1 H1 x1.ff (w1.own fa pa ha no r)⟩
  · cases e
/-- a, b = x, y -/
def gPar (i j : Nat) (f : Sem1 (List D)) : S → Option Fl := fun s => match f s with
  | some ([d, e], s1) => some (.nx { s1 with sl := (s1.sl.set i (.sh d)).set j (.sh e) })
  | _ => none
theorem s_par (i j : Nat) {x y : Str} {a b : Expr} {f : Sem1 (List D)} {px py pt pos : Pos} {kt k2 pt2} (hc : X.calm = true) (hN : X.N.Nodup) (ha : PA X [a, b] (tA X.K P F0 H0 f)) (hij : i ≠ j := by decide)
    (hi : X.N[i]? = some x := by rfl) (hj : X.N[j]? = some y := by rfl) (hx : X.env.scope.names.lookup x = some .local := by rfl) (hy : X.env.scope.names.lookup y = some .local := by rfl)
    (hw : swappedStores [.Tuple [.Name x px, .Name y py] kt pt] (.Tuple [a, b] k2 pt2) X.env = pure (some [x, y]) := by rfl)
    (hs : swapsWithSole [.Tuple [.Name x px, .Name y py] kt pt] (.Tuple [a, b] k2 pt2) pos.line X.env = pure false := by rfl) : PS X (.Assign [.Tuple [.Name x px, .Name y py] kt pt] (.Tuple [a, b] k2 pt2) pos) (tS X.K P F0 H0 (gPar i j f)) := by
  refine PS.con (ps_par hc hN hi hj hij hx hy ha hw hs) fun D σ H ⟨F, s, r, w, e, q⟩ => ?_
  unfold gPar at e
  split at e
  · rename_i d d' s1 e1
    cases e
    refine ⟨F, s, _, s1, w, e1, fun vs F1 H1 x1 w1 d1 => ?_⟩
    cases d1 with
    | cons h t => cases t with
      | cons h2 t2 =>
        cases t2
        exact ⟨_, _, rfl, q _ F1 H1 x1.ff ((w1.put h).put h2)⟩
  · cases e
def gPar3 (i j l : Nat) (f : Sem1 (List D)) : S → Option Fl := fun s => match f s with
  | some ([d, e, k], s1) => some (.nx { s1 with sl := ((s1.sl.set i (.sh d)).set j (.sh e)).set l (.sh k) })
  | _ => none
theorem s_par3 (i j l : Nat) {x y z : Str} {a b c : Expr} {f : Sem1 (List D)} {px py pz pt pos : Pos} {kt k2 pt2} (hc : X.calm = true) (hN : X.N.Nodup) (ha : PA X [a, b, c] (tA X.K P F0 H0 f)) (hij : i ≠ j := by decide) (hil : i ≠ l := by decide) (hjl : j ≠ l := by decide)
    (hi : X.N[i]? = some x := by rfl) (hj : X.N[j]? = some y := by rfl) (hl : X.N[l]? = some z := by rfl) (hx : X.env.scope.names.lookup x = some .local := by rfl) (hy : X.env.scope.names.lookup y = some .local := by rfl) (hz : X.env.scope.names.lookup z = some .local := by rfl)
    (hw : swappedStores [.Tuple [.Name x px, .Name y py, .Name z pz] kt pt] (.Tuple [a, b, c] k2 pt2) X.env = pure (some [x, y, z]) := by rfl)
    (hs : swapsWithSole [.Tuple [.Name x px, .Name y py, .Name z pz] kt pt] (.Tuple [a, b, c] k2 pt2) pos.line X.env = pure false := by rfl) : PS X (.Assign [.Tuple [.Name x px, .Name y py, .Name z pz] kt pt] (.Tuple [a, b, c] k2 pt2) pos) (tS X.K P F0 H0 (gPar3 i j l f)) := by
  refine PS.con (ps_par3 hc hN hi hj hl hij hil hjl hx hy hz ha hw hs) fun D σ H ⟨F, s, r, w, e, q⟩ => ?_
  unfold gPar3 at e
  split at e
  · rename_i d d' d2 s1 e1
    cases e
    refine ⟨F, s, _, s1, w, e1, fun vs F1 H1 x1 w1 d1 => ?_⟩
    cases d1 with
    | cons h t => cases t with
      | cons h2 t2 => cases t2 with
        | cons h3 t3 =>
          cases t3
          exact ⟨_, _, _, rfl, q _ F1 H1 x1.ff (((w1.put h).put h2).put h3)⟩
  · cases e
/-! ### methods of an owned list, as statements -/
def gApp (i : Nat) (f : Sem1 D) : S → Option Fl := fun s => match s.sl[i]? with
  | some (.ow (.lst _)) => match f s with
    | some (d, s1) => match s1.sl[i]? with
      | some (.ow (.lst ds)) => if ds.length < LIM then some (.nx { s1 with sl := s1.sl.set i (.ow (.lst (ds ++ [d]))) }) else none
      | _ => none
    | none => none
  | _ => none
theorem lt_lim {n : Nat} (h : n < LIM) : n < sizeLine := by rw [sizeLine_eq]; exact h
theorem s_app (i : Nat) {x : Str} {e : Expr} {f : Sem1 D} {p1 apos cpos : Pos} (he : PE X e (tV X.K P F0 H0 f)) (hN : X.N[i]? = some x := by rfl) (hv : Vis X.env.scope x := by first | exact Or.inl rfl | exact Or.inr (Or.inl rfl) | exact Or.inr (Or.inr rfl))
    (hd : (x == ("__debug__" : Str)) = false := by decide) (hcd : (x == ("__classdict__" : Str)) = false := by decide)
    (hm : PE X (.Call (.Attribute (.Name x p1) "append" apos) [e] [] cpos) (tBM X.K "list" rAppend (tVar i) (tCons (tV X.K P F0 H0 f) tNil)) := by exact pe_bm PySem.F.plainAttrs_list PySem.F.slot_list_append PySem.F.type_list_append mt_append (pe_var (i := i) (by assumption) (by assumption)) (pa_cons (by assumption) pa_nil))
    (hs : swapsWith (.Call (.Attribute (.Name x p1) "append" apos) [e] [] cpos) none pos.line X.env = pure false := by rfl) : PS X (.Expr (.Call (.Attribute (.Name x p1) "append" apos) [e] [] cpos) pos) (tS X.K P F0 H0 (gApp i f)) := by
  refine PS.con (ps_expr hm hs) fun D σ H ⟨F, s, r, w, e, q⟩ => ?_
  unfold gApp at e
  split at e
  · rename_i d0 h0
    obtain ⟨o, eo, a, ea, fa, pa, r0⟩ := w.there h0
    subst ea
    obtain ⟨vs0, hvs0, _⟩ := r0.lst
    split at e
    · rename_i d s1 e1
      split at e
      · rename_i ds es
        split at e
        · rename_i hl
          cases e
          refine ⟨.ref a, eo, .inl ⟨rfl, vs0, .of hvs0⟩, F, s, d, s1, w, e1, fun v F1 H1 x1 w1 d1 => ?_⟩
          obtain ⟨o', eo', a', ea', _, _, r⟩ := w1.there es
          rw [eo] at eo'
          cases eo'
          cases ea'
          obtain ⟨vs, hvs, rr⟩ := r.lst
          refine ⟨a, vs, v, rfl, rfl, hvs, by rw [rr.length]; exact lt_lim hl, ?_⟩
          exact q σ F1 _ x1.ff (w1.write es eo ⟨_, upd_same, rr.append (.cons d1 .nil)⟩)
        · cases e
      · cases e
    · cases e
  · cases e
def gPop (i : Nat) : S → Option Fl := fun s => match s.sl[i]? with
  | some (.ow (.lst (d :: ds))) => some (.nx { s with sl := s.sl.set i (.ow (.lst (d :: ds).dropLast)) })
  | _ => none
theorem s_pop (i : Nat) {x : Str} {p1 apos cpos : Pos} (hN : X.N[i]? = some x := by rfl) (hv : Vis X.env.scope x := by first | exact Or.inl rfl | exact Or.inr (Or.inl rfl) | exact Or.inr (Or.inr rfl))
    (hd : (x == ("__debug__" : Str)) = false := by decide) (hcd : (x == ("__classdict__" : Str)) = false := by decide)
    (hm : PE X (.Call (.Attribute (.Name x p1) "pop" apos) [] [] cpos) (tBM0 X.K "list" rPop (tVar i)) := by exact pe_bm0 PySem.F.plainAttrs_list PySem.F.slot_list_pop PySem.F.type_list_pop mt_pop (pe_var (i := i) (by assumption) (by assumption)))
    (hs : swapsWith (.Call (.Attribute (.Name x p1) "pop" apos) [] [] cpos) none pos.line X.env = pure false := by rfl) : PS X (.Expr (.Call (.Attribute (.Name x p1) "pop" apos) [] [] cpos) pos) (tS X.K P F0 H0 (gPop i)) := by
  refine PS.con (ps_expr hm hs) fun D σ H ⟨F, s, r, w, e, q⟩ => ?_
  unfold gPop at e
  split at e
  · rename_i d0 ds h0
    cases e
    obtain ⟨o, eo, a, ea, fa, pa, r0⟩ := w.there h0
    subst ea
    obtain ⟨vs, hvs, rr⟩ := r0.lst
    have hlast : ∃ y, vs[vs.length - 1]? = some y := by
      have : vs.length - 1 < vs.length := by
        rw [rr.length, List.length_cons]
        omega
      exact ⟨_, List.getElem?_eq_getElem this⟩
    obtain ⟨y, hy⟩ := hlast
    exact ⟨.ref a, eo, .inl ⟨rfl, vs, .of hvs⟩, a, vs, y, rfl, rfl, hvs, hy, q σ F _ (Same.refl _) (w.write h0 eo ⟨_, upd_same, rr.dropLast⟩)⟩
  · cases e
def gExt (i : Nat) (f : Sem1 D) : S → Option Fl := fun s => match s.sl[i]? with
  | some (.ow (.lst _)) => match f s with
    | some (.lst es, s1) => match s1.sl[i]? with
      | some (.ow (.lst ds)) => if ds.length + es.length ≤ LIM then some (.nx { s1 with sl := s1.sl.set i (.ow (.lst (ds ++ es))) }) else none
      | _ => none
    | _ => none
  | _ => none
theorem s_ext (i : Nat) {x : Str} {e : Expr} {f : Sem1 D} {p1 apos cpos : Pos} (he : PE X e (tV X.K P F0 H0 f)) (hN : X.N[i]? = some x := by rfl) (hv : Vis X.env.scope x := by first | exact Or.inl rfl | exact Or.inr (Or.inl rfl) | exact Or.inr (Or.inr rfl))
    (hd : (x == ("__debug__" : Str)) = false := by decide) (hcd : (x == ("__classdict__" : Str)) = false := by decide)
    (hm : PE X (.Call (.Attribute (.Name x p1) "extend" apos) [e] [] cpos) (tBM X.K "list" rExtend (tVar i) (tCons (tV X.K P F0 H0 f) tNil)) := by exact pe_bm PySem.F.plainAttrs_list PySem.F.slot_list_extend PySem.F.type_list_extend mt_extend (pe_var (i := i) (by assumption) (by assumption)) (pa_cons (by assumption) pa_nil))
    (hs : swapsWith (.Call (.Attribute (.Name x p1) "extend" apos) [e] [] cpos) none pos.line X.env = pure false := by rfl) : PS X (.Expr (.Call (.Attribute (.Name x p1) "extend" apos) [e] [] cpos) pos) (tS X.K P F0 H0 (gExt i f)) := by
  refine PS.con (ps_expr hm hs) fun D σ H ⟨F, s, r, w, e, q⟩ => ?_
  unfold gExt at e
  split at e
  · rename_i d0 h0
    obtain ⟨o, eo, a, ea, fa, pa, r0⟩ := w.there h0
    subst ea
    obtain ⟨vs0, hvs0, _⟩ := r0.lst
    split at e
    · rename_i es' s1 e1
      split at e
      · rename_i ds es
        split at e
        · rename_i hl
          cases e
          refine ⟨.ref a, eo, .inl ⟨rfl, vs0, .of hvs0⟩, F, s, .lst es', s1, w, e1, fun v F1 H1 x1 w1 d1 => ?_⟩
          obtain ⟨o', eo', a', ea', _, _, r⟩ := w1.there es
          rw [eo] at eo'
          cases eo'
          cases ea'
          obtain ⟨vs, hvs, rr⟩ := r.lst
          cases d1 with
          | lst hb rb =>
            refine ⟨a, _, vs, _, rfl, rfl, hvs, w1.hr.sub _ _ hb, by rw [rr.length, rb.length]; exact le_lim hl, ?_⟩
            exact q σ F1 _ x1.ff (w1.write es eo ⟨_, upd_same, rr.append rb⟩)
        · cases e
      · cases e
    · cases e
  · cases e
end
end VS
end
section
set_option Elab.async false
set_option linter.all false
set_option maxRecDepth 100000
set_option maxHeartbeats 4000000
namespace VS
open PySem PySem.Spec PyProof.Rows L2
/-! ### while -/
def gWhile (t : Sem1 Bool) (g : S → Option Fl) : Nat → S → Option Fl
  | 0, _ => none
  | n + 1, s => match t s with
    | some (true, s1) => match g s1 with
      | some (.nx s2) => gWhile t g n s2
      | r => r
    | some (false, s1) => some (.nx s1)
    | none => none
section
variable {X : Cx} {P : Option Addr} {F0 H0 : Hp} {pos : Pos}
theorem s_while (n : Nat) {c : Expr} {body : List Stmt} {t : Sem1 Bool} {g : S → Option Fl} (hp : PassesOwn (model X.prog X.w) X.A X.env X.xe) (hc : PT X c (tT X.K P F0 H0 t)) (hb : PSs X body (tS X.K P F0 H0 g)) : PS X (.While c body [] pos) (tS X.K P F0 H0 (gWhile t g n)) := by
  refine PS.con (ps_while hp hc hb) fun D σ H ⟨F, s, r, w, e, q⟩ => ?_
  refine ⟨fun m σ1 H1 => ∃ F1 s1, Same F F1 ∧ SR X.K P F0 H0 F1 σ1 H1 s1 ∧ gWhile t g m s1 = some r, ⟨n, F, s, Same.refl _, w, e⟩, fun m σ1 H1 ⟨F1, s1, f1, w1, e1⟩ => ?_⟩
  cases m with
  | zero => cases e1
  | succ m =>
    unfold gWhile at e1
    split at e1
    · rename_i s2 e2
      refine ⟨F1, s1, true, s2, w1, e2, fun F2 H2 x2 w2 => iteT ?_⟩
      split at e1
      · rename_i s3 e3
        refine ⟨fun σ' H' => ∃ F1 s1, Same F F1 ∧ SR X.K P F0 H0 F1 σ' H' s1 ∧ gWhile t g m s1 = some r, fun σ' H' h => ⟨m, Nat.lt_succ_self m, h⟩, ?_⟩
        exact ⟨F2, s2, .nx s3, w2, e3, fun σ3 F3 H3 f3 w3 => ⟨F3, s3, (f1.trans x2.ff).trans f3, w3, e1⟩⟩
      · rename_i n3
        cases r with
        | nx s3 => exact absurd e1 (n3 s3)
        | rt d pt => exact ⟨fun _ _ => False, fun _ _ h => h.elim, F2, s2, .rt d pt, w2, e1, fun v F3 H3 w3 d3 => q v F3 H3 w3 d3⟩
    · rename_i s2 e2
      cases e1
      exact ⟨F1, s1, false, s2, w1, e2, fun F2 H2 x2 w2 => iteF (q σ1 F2 H2 (f1.trans x2.ff) w2)⟩
    · cases e1
/-! ### what is walked -/
structure ItV (K : PySem.W.Frag) (P : Option Addr) (F1 : Hp) (J : It) (ds : List D) : Prop where
  stop : ∀ i F H, Same F1 F → Same F H → ds.length ≤ i → J.stop i H
  go : ∀ i F H, Same F1 F → Same F H → i < ds.length → J.go i H
  yld : ∀ i F H x H' d, Same F1 F → Same F H → ds[i]? = some d → J.yld i H x H' → ∃ F', Grow none F H F' H' ∧ DR K P F' x d
def tI (K : PySem.W.Frag) (P : Option Addr) (F0 H0 : Hp) (f : Sem1 (List D)) : TI := fun σ H R => ∃ F s ds s', SR K P F0 H0 F σ H s ∧ f s = some (ds, s') ∧ ∀ J F' H', Ex P σ F H s F' H' s' → SR K P F0 H0 F' σ H' s' → ItV K P F' J ds → R J H'
theorem PI.con {tg l : Expr} {t t' : TI} (h : PI X tg l t) (i : ∀ σ H R, t' σ H R → t σ H R) : PI X tg l t' := ⟨fun pins s σ H R I q => h.run pins s σ H R I (i _ _ _ q)⟩
def iL (f : Sem1 D) : Sem1 (List D) := fun s => match f s with
  | some (.lst ds, s1) => some (ds, s1)
  | _ => none
def iT (f : Sem1 D) : Sem1 (List D) := fun s => match f s with
  | some (.tup ds, s1) => some (ds, s1)
  | _ => none
theorem i_list {tg l : Expr} {f : Sem1 D} (h : PE X l (tV X.K P F0 H0 f)) : PI X tg l (tI X.K P F0 H0 (iL f)) := by
  refine PI.con (pi_list h) fun σ H R ⟨F, s, ds, s', w, e, q⟩ => ?_
  unfold iL at e
  split at e
  · rename_i es s1 e1
    cases e
    refine ⟨F, s, .lst ds, s', w, e1, fun v F1 H1 x1 w1 d1 => ?_⟩
    cases d1 with
    | @lst a vs _ h r =>
      refine ⟨a, rfl, ⟨vs, .of (w1.hr.sub _ _ h)⟩, q _ F1 H1 x1 w1 ⟨fun i F H f1 fh hi => ?_, fun i F H f1 fh hi => ?_, fun i F H x H' d f1 fh hd hy => ?_⟩⟩
      · exact ⟨vs, .of (fh _ _ (f1 _ _ h)), by rw [r.length]; exact hi⟩
      · exact ⟨vs, vs[i]'(by rw [r.length]; exact hi), .of (fh _ _ (f1 _ _ h)), List.getElem?_eq_getElem _⟩
      · obtain ⟨e, hx⟩ := hy
        subst e
        obtain ⟨v, hv, dv⟩ := r.get hd
        have := hx vs (.of (fh _ _ (f1 _ _ h)))
        rw [hv] at this
        cases this
        exact ⟨F, .refl fh, dv.mono f1⟩
  · cases e
theorem i_tup {tg l : Expr} {f : Sem1 D} (h : PE X l (tV X.K P F0 H0 f)) : PI X tg l (tI X.K P F0 H0 (iT f)) := by
  refine PI.con (pi_tup h) fun σ H R ⟨F, s, ds, s', w, e, q⟩ => ?_
  unfold iT at e
  split at e
  · rename_i es s1 e1
    cases e
    refine ⟨F, s, .tup ds, s', w, e1, fun v F1 H1 x1 w1 d1 => ?_⟩
    cases d1 with
    | @tup a vs _ h r =>
      refine ⟨a, rfl, ⟨vs, same_sqT w1.hr.sub h⟩, q _ F1 H1 x1 w1 ⟨fun i F H f1 fh hi => ?_, fun i F H f1 fh hi => ?_, fun i F H x H' d f1 fh hd hy => ?_⟩⟩
      · exact ⟨vs, same_sqT fh (same_sqT f1 h), by rw [r.length]; exact hi⟩
      · exact ⟨vs, vs[i]'(by rw [r.length]; exact hi), same_sqT fh (same_sqT f1 h), List.getElem?_eq_getElem _⟩
      · obtain ⟨e, hx⟩ := hy
        subst e
        obtain ⟨v, hv, dv⟩ := r.get hd
        have := hx vs (same_sqT fh (same_sqT f1 h))
        rw [hv] at this
        cases this
        exact ⟨F, .refl fh, dv.mono f1⟩
  · cases e
def rngD (lo : Int) (n : Nat) : List D := (List.range n).map fun (i : Nat) => .int (lo + (i : Int))
theorem itv_rng {K : PySem.W.Frag} {F1 : Hp} {lo : Int} {n : Nat} : ItV K P F1 (Itr lo n) (rngD lo n) := by
  refine ⟨fun i F H _ _ hi => ?_, fun i F H _ _ hi => ?_, fun i F H x H' d f1 fh hd hy => ?_⟩
  · unfold rngD at hi
    rw [List.length_map, List.length_range] at hi
    exact hi
  · unfold rngD at hi
    rw [List.length_map, List.length_range] at hi
    exact hi
  · obtain ⟨e, ex⟩ := hy
    subst e
    subst ex
    unfold rngD at hd
    rw [List.getElem?_map] at hd
    cases hr : (List.range n)[i]? with
    | none => rw [hr] at hd; cases hd
    | some j =>
      rw [hr] at hd
      have := List.getElem?_range (n := n) (i := i) (by
        have := (List.getElem?_eq_some_iff.mp hr).1
        rw [List.length_range] at this
        exact this)
      rw [hr] at this
      cases this
      cases hd
      exact ⟨F, .refl fh, .int _⟩
def inR (i : Int) : Bool := decide (-(2 ^ 62) ≤ i ∧ i < 2 ^ 62)
def iR1 (f : Sem1 (List D)) : Sem1 (List D) := fun s => match f s with
  | some ([.int j], s1) => if inR j = true then some (rngD 0 j.toNat, s1) else none
  | _ => none
def iR2 (f : Sem1 (List D)) : Sem1 (List D) := fun s => match f s with
  | some ([.int i, .int j], s1) => if inR i = true ∧ inR j = true then some (rngD i (j - i).toNat, s1) else none
  | _ => none
theorem i_rng1 {tg a : Expr} {f : Sem1 (List D)} {p pos : Pos} (hm : X.mg "range" = none) (ha : PA X [a] (tA X.K P F0 H0 f)) (hg : Gl X "range" := by rfl) (hs : starEach [a] X.env = [(false, eval a X.env)] := by rfl) : PI X tg (.Call (.Name "range" p) [a] [] pos) (tI X.K P F0 H0 (iR1 f)) := by
  refine PI.con (pi_range1 hg hm ha hs) fun σ H R ⟨F, s, ds, s', w, e, q⟩ => ?_
  unfold iR1 at e
  split at e
  · rename_i j s1 e1
    split at e
    · rename_i hj
      cases e
      refine ⟨F, s, _, s', w, e1, fun vs F1 H1 x1 w1 d1 => ?_⟩
      cases d1 with
      | cons h t =>
        cases h
        cases t
        obtain ⟨h1, h2⟩ := of_decide_eq_true hj
        exact ⟨j, rfl, h1, h2, q _ F1 H1 x1 w1 itv_rng⟩
    · cases e
  · cases e
theorem i_rng2 {tg a b : Expr} {f : Sem1 (List D)} {p pos : Pos} (hm : X.mg "range" = none) (ha : PA X [a, b] (tA X.K P F0 H0 f)) (hg : Gl X "range" := by rfl) (hs : starEach [a, b] X.env = [(false, eval a X.env), (false, eval b X.env)] := by rfl) (hs2 : starEach [b] X.env = [(false, eval b X.env)] := by rfl) : PI X tg (.Call (.Name "range" p) [a, b] [] pos) (tI X.K P F0 H0 (iR2 f)) := by
  refine PI.con (pi_range2 hg hm ha hs hs2) fun σ H R ⟨F, s, ds, s', w, e, q⟩ => ?_
  unfold iR2 at e
  split at e
  · rename_i i j s1 e1
    split at e
    · rename_i hj
      cases e
      refine ⟨F, s, _, s', w, e1, fun vs F1 H1 x1 w1 d1 => ?_⟩
      cases d1 with
      | cons h t =>
        cases h
        cases t with
        | cons h2 t2 =>
          cases h2
          cases t2
          obtain ⟨h1, h2⟩ := of_decide_eq_true hj.1
          obtain ⟨h3, h4⟩ := of_decide_eq_true hj.2
          exact ⟨i, j, rfl, ⟨h1, h2, h3, h4⟩, q _ F1 H1 x1 w1 itv_rng⟩
    · cases e
  · cases e
def zipD (xs ys : List D) : List D := List.zipWith (fun x y => .tup [x, y]) xs ys
def iZ (f : Sem1 (List D)) : Sem1 (List D) := fun s => match f s with
  | some ([.lst xs, .lst ys], s1) => some (zipD xs ys, s1)
  | _ => none
theorem zipD_get {xs ys : List D} {i : Nat} {d : D} (h : (zipD xs ys)[i]? = some d) : ∃ x y, xs[i]? = some x ∧ ys[i]? = some y ∧ d = .tup [x, y] := by
  unfold zipD at h
  rw [List.getElem?_zipWith] at h
  cases hx : xs[i]? with
  | none => rw [hx] at h; cases h
  | some x =>
    cases hy : ys[i]? with
    | none => rw [hx, hy] at h; cases h
    | some y =>
      rw [hx, hy] at h
      cases h
      exact ⟨x, y, rfl, rfl, rfl⟩
theorem i_zip {elts : List Expr} {kk : Nat} {tpos : Pos} {a b : Expr} {f : Sem1 (List D)} {p pos : Pos} (hm : X.mg "zip" = none) (ha : PA X [a, b] (tA X.K P F0 H0 f)) (hg : Gl X "zip" := by rfl)
    (hs : starEach [a, b] X.env = (false, eval a X.env) :: starEach [b] X.env := by rfl) (hpl : (backTo pos (starEach [b] X.env)).any (·.1) = false := by rfl) : PI X (.Tuple elts kk tpos) (.Call (.Name "zip" p) [a, b] [] pos) (tI X.K P F0 H0 (iZ f)) := by
  refine PI.con (pi_zip hg hm ha hs hpl) fun σ H R ⟨F, s, ds, s', w, e, q⟩ => ?_
  unfold iZ at e
  split at e
  · rename_i xs ys s1 e1
    cases e
    refine ⟨F, s, _, s', w, e1, fun vs F1 H1 x1 w1 d1 => ?_⟩
    cases d1 with
    | cons h t =>
      cases t with
      | cons h2 t2 =>
        cases t2
        cases h with
        | @lst a vs _ h r =>
          cases h2 with
          | @lst b us _ h2 r2 =>
            refine ⟨a, b, vs, us, rfl, .of (w1.hr.sub _ _ h), .of (w1.hr.sub _ _ h2), q _ F1 H1 x1 w1 ⟨fun i F H f1 fh hi => ?_, fun i F H f1 fh hi => ?_, fun i F H x H' d f1 fh hd hy => ?_⟩⟩
            · refine ⟨vs, us, .of (fh _ _ (f1 _ _ h)), .of (fh _ _ (f1 _ _ h2)), ?_⟩
              unfold zipD at hi
              rw [List.length_zipWith] at hi
              rw [r.length, r2.length]
              omega
            · unfold zipD at hi
              rw [List.length_zipWith] at hi
              exact ⟨vs, us, vs[i]'(by rw [r.length]; omega), us[i]'(by rw [r2.length]; omega), .of (fh _ _ (f1 _ _ h)), .of (fh _ _ (f1 _ _ h2)), List.getElem?_eq_getElem _, List.getElem?_eq_getElem _⟩
            · obtain ⟨T, x1, y1, rfl, nT, rfl, g1, g2⟩ := hy
              obtain ⟨dx, dy, ex, ey, rfl⟩ := zipD_get hd
              obtain ⟨v, hv, dv⟩ := r.get ex
              obtain ⟨u, hu, du⟩ := r2.get ey
              have a1 := g1 vs (.of (fh _ _ (f1 _ _ h)))
              have a2 := g2 us (.of (fh _ _ (f1 _ _ h2)))
              rw [hv] at a1
              rw [hu] at a2
              cases a1
              cases a2
              have g := Grow.upd (o := .tup [x1, y1]) fh nT
              exact ⟨_, g, .tup (.inl (.inl upd_same)) ((DRs.cons (dv.mono f1) (.cons (du.mono f1) .nil)).mono g.ff)⟩
  · cases e
def enumD (xs : List D) : List D := xs.zipIdx.map fun p => .tup [.int p.2, p.1]
def iE (f : Sem1 (List D)) : Sem1 (List D) := fun s => match f s with
  | some ([.lst xs], s1) => some (enumD xs, s1)
  | _ => none
theorem enumD_get {xs : List D} {i : Nat} {d : D} (h : (enumD xs)[i]? = some d) : ∃ x, xs[i]? = some x ∧ d = .tup [.int i, x] := by
  unfold enumD at h
  rw [List.getElem?_map, List.getElem?_zipIdx] at h
  cases hx : xs[i]? with
  | none => rw [hx] at h; cases h
  | some x =>
    rw [hx] at h
    cases h
    exact ⟨x, rfl, by simp⟩
theorem i_enum {elts : List Expr} {kk : Nat} {tpos : Pos} {a : Expr} {f : Sem1 (List D)} {p pos : Pos} (hm : X.mg "enumerate" = none) (ha : PA X [a] (tA X.K P F0 H0 f)) (hg : Gl X "enumerate" := by rfl)
    (hs : starEach [a] X.env = [(false, eval a X.env)] := by rfl) : PI X (.Tuple elts kk tpos) (.Call (.Name "enumerate" p) [a] [] pos) (tI X.K P F0 H0 (iE f)) := by
  refine PI.con (pi_enum hg hm ha hs) fun σ H R ⟨F, s, ds, s', w, e, q⟩ => ?_
  unfold iE at e
  split at e
  · rename_i xs s1 e1
    cases e
    refine ⟨F, s, _, s', w, e1, fun vs F1 H1 x1 w1 d1 => ?_⟩
    cases d1 with
    | cons h t =>
      cases t
      cases h with
      | @lst a vs _ h r =>
        refine ⟨a, vs, rfl, .of (w1.hr.sub _ _ h), q _ F1 H1 x1 w1 ⟨fun i F H f1 fh hi => ?_, fun i F H f1 fh hi => ?_, fun i F H x H' d f1 fh hd hy => ?_⟩⟩
        · refine ⟨vs, .of (fh _ _ (f1 _ _ h)), ?_⟩
          unfold enumD at hi
          rw [List.length_map, List.length_zipIdx] at hi
          rw [r.length]
          exact hi
        · unfold enumD at hi
          rw [List.length_map, List.length_zipIdx] at hi
          exact ⟨vs, vs[i]'(by rw [r.length]; exact hi), .of (fh _ _ (f1 _ _ h)), List.getElem?_eq_getElem _⟩
        · obtain ⟨T, x1, rfl, nT, rfl, g1⟩ := hy
          obtain ⟨dx, ex, rfl⟩ := enumD_get hd
          obtain ⟨v, hv, dv⟩ := r.get ex
          have a1 := g1 vs (.of (fh _ _ (f1 _ _ h)))
          rw [hv] at a1
          cases a1
          have g := Grow.upd (o := .tup [.int (i : Nat), x1]) fh nT
          exact ⟨_, g, .tup (.inl (.inl upd_same)) ((DRs.cons (.int _) (.cons (dv.mono f1) .nil)).mono g.ff)⟩
  · cases e
/-! ### for -/
def gLoop (t : Tg) (g : S → Option Fl) : List D → S → Option Fl
  | [], s => some (.nx s)
  | d :: ds, s => match t d s with
    | some s1 => match g s1 with
      | some (.nx s2) => gLoop t g ds s2
      | r => r
    | none => none
def gFor (i : Sem1 (List D)) (t : Tg) (g : S → Option Fl) : S → Option Fl := fun s => match i s with
  | some (ds, s1) => gLoop t g ds s1
  | none => none
theorem drop_cons {α : Type} {l : List α} {i : Nat} {d : α} {r : List α} (h : l.drop i = d :: r) : l[i]? = some d ∧ l.drop (i + 1) = r := by
  constructor
  · have := congrArg List.head? h
    rw [List.head?_drop] at this
    exact this
  · rw [← List.drop_drop, h]
    rfl
theorem s_for {tg l : Expr} {body : List Stmt} {f : Sem1 (List D)} {t : Tg} {g : S → Option Fl} (hp : PassesOwn (model X.prog X.w) X.A X.env X.xe) (hc : X.calm = true) (hi : PI X tg l (tI X.K P F0 H0 f)) (hg : PG X tg (tG X.K P F0 H0 t)) (hb : PSs X body (tS X.K P F0 H0 g))
    (hs : ∀ x, foldedSetIterable l X.env x = pure x := by intro _; rfl) : PS X (.For tg l body [] pos) (tS X.K P F0 H0 (gFor f t g)) := by
  refine PS.con (ps_for hp hc hi hg hb hs) fun D σ H ⟨F, s, r, w, e, q⟩ => ?_
  unfold gFor at e
  split at e
  · rename_i ds s1 e1
    refine ⟨F, s, ds, s1, w, e1, fun J F1 H1 x1 w1 it => ?_⟩
    refine ⟨fun i m σ2 H2 => i + m = ds.length ∧ ∃ F2 s2, Same F1 F2 ∧ SR X.K P F0 H0 F2 σ2 H2 s2 ∧ gLoop t g (ds.drop i) s2 = some r, ⟨ds.length, by omega, F1, s1, Same.refl _, w1, by rw [List.drop_zero]; exact e⟩, fun i m σ2 H2 ⟨hm, F2, s2, f2, w2, e2⟩ => ?_⟩
    cases hd : ds.drop i with
    | nil =>
      rw [hd] at e2
      cases e2
      have : ds.length ≤ i := List.drop_eq_nil_iff.mp hd
      exact .inl ⟨it.stop i F2 H2 f2 w2.hr.sub this, q σ2 F2 H2 (x1.ff.trans f2) w2⟩
    | cons d rest =>
      rw [hd] at e2
      obtain ⟨h1, h2⟩ := drop_cons hd
      have hlt : i < ds.length := (List.getElem?_eq_some_iff.mp h1).1
      refine .inr ⟨it.go i F2 H2 f2 w2.hr.sub hlt, fun σ3 H3 => ∃ F3 s3, Same F1 F3 ∧ SR X.K P F0 H0 F3 σ3 H3 s3 ∧ gLoop t g (ds.drop (i + 1)) s3 = some r, fun σ3 H3 h3 => ⟨m - 1, by omega, by omega, h3⟩, fun x H3 hy => ?_⟩
      obtain ⟨F3, g3, d3⟩ := it.yld i F2 H2 x H3 d f2 w2.hr.sub h1 hy
      have e2' : (match t d s2 with
        | some s1 => match g s1 with
          | some (.nx s2) => gLoop t g rest s2
          | r => r
        | none => none) = some r := e2
      split at e2'
      · rename_i s4 e4
        refine ⟨F3, s2, d, s4, w2.grow g3, d3, e4, fun σ5 F5 H5 f5 w5 => ?_⟩
        split at e2'
        · rename_i s6 e6
          exact ⟨F5, s4, .nx s6, w5, e6, fun σ7 F7 H7 f7 w7 => ⟨F7, s6, ((f2.trans g3.ff).trans f5).trans f7, w7, by rw [h2]; exact e2'⟩⟩
        · rename_i n6
          cases r with
          | nx s6 => exact absurd e2' (n6 s6)
          | rt d' pt => exact ⟨F5, s4, .rt d' pt, w5, e2', fun v F7 H7 w7 d7 => q v F7 H7 w7 d7⟩
      · cases e2'
  · cases e
end
end VS
end
section
set_option Elab.async false
set_option linter.all false
set_option maxRecDepth 100000
set_option maxHeartbeats 4000000
namespace VS
open PySem PySem.Spec PyProof.Rows L2
/-! ### comprehensions -/
def wipeS (l : List Sl) : List Nat → List Sl
  | [] => l
  | v :: vs => (wipeS l vs).set v .un
def keepS : Option Sl → Sl
  | some (.sh d) => .sh d
  | _ => .un
def restS (l0 : List Sl) (l : List Sl) : List Nat → List Sl
  | [] => l
  | v :: vs => restS l0 (l.set v (keepS l0[v]?)) vs
theorem ow_set {l : List Sl} {v i : Nat} {x : Sl} {d : D} (hx : ∀ d, x ≠ .ow d) (h : (l.set v x)[i]? = some (.ow d)) : l[i]? = some (.ow d) := by
  by_cases hi : v = i
  · subst hi
    rw [List.getElem?_set] at h
    split at h
    · split at h
      · exact absurd (Option.some.inj h) (hx d)
      · cases h
    · contradiction
  · rw [List.getElem?_set_ne hi] at h
    exact h
theorem keep_ne (o : Option Sl) (d : D) : keepS o ≠ .ow d := by
  unfold keepS
  split <;> exact fun z => by cases z
theorem ow_wipe {l : List Sl} {i : Nat} {d : D} : ∀ {vs : List Nat}, (wipeS l vs)[i]? = some (.ow d) → l[i]? = some (.ow d)
  | [], h => h
  | v :: vs, h => ow_wipe (vs := vs) (ow_set (fun d z => by cases z) h)
theorem ow_rest {l0 : List Sl} {i : Nat} {d : D} : ∀ {vs : List Nat} {l : List Sl}, (restS l0 l vs)[i]? = some (.ow d) → l[i]? = some (.ow d)
  | [], _, h => h
  | v :: vs, l, h => ow_set (keep_ne _) (ow_rest (vs := vs) h)
theorem wipe_set' {σ : St} {i : Nat} {o : Option VV} : ∀ {vs : List Nat}, i ∈ vs → wipe (σ.set i o) vs = wipe σ vs
  | v :: vs, h => by
    unfold wipe
    by_cases hm : i ∈ vs
    · rw [wipe_set' hm]
    · have hv : i = v := (List.mem_cons.mp h).resolve_right hm
      subst hv
      have : ∀ {ws : List Nat}, i ∉ ws → (wipe (σ.set i o) ws) = (wipe σ ws).set i o := by
        intro ws
        induction ws with
        | nil => intro _; rfl
        | cons u us ih =>
          intro hn
          have h1 : i ≠ u := fun e => hn (by rw [e]; exact List.mem_cons_self)
          have h2 : i ∉ us := fun e => hn (List.mem_cons_of_mem _ e)
          show (wipe (σ.set i o) us).set u none = ((wipe σ us).set u none).set i o
          rw [ih h2, List.set_comm _ _ h1]
      rw [this hm, List.set_set]
theorem wipe_wipe {σ : St} {vs : List Nat} : ∀ {us : List Nat}, (∀ u, u ∈ us → u ∈ vs) → wipe (wipe σ us) vs = wipe σ vs
  | [], _ => rfl
  | u :: us, h => (wipe_set' (h u List.mem_cons_self)).trans (wipe_wipe fun w hw => h w (List.mem_cons_of_mem _ hw))
section
variable {K : PySem.W.Frag} {P : Option Addr} {F F0 F' H0 H H' : Hp} {σ : St} {s s' : S}
theorem SR.wipe (h : SR K P F0 H0 F σ H s) : ∀ vs : List Nat, SR K P F0 H0 F (L2.wipe σ vs) H { s with sl := wipeS s.sl vs }
  | [] => h
  | v :: vs => (SR.wipe h vs).put' (i := v) (o := none) (l := .un) True.intro fun d z => by cases z
/-- back from a block -/
theorem SR.rest (h0 : SR K P F0 H0 F σ H s) (ff : Same F F') : ∀ {vs : List Nat} {l : List Sl} {pt : Option (Int × Int)}, vs.Nodup → SR K P F0 H0 F' (L2.wipe σ vs) H' ⟨l, pt⟩ → SR K P F0 H0 F' σ H' ⟨restS s.sl l vs, pt⟩
  | [], l, pt, _, h => h
  | v :: vs, l, pt, nd, h => by
    obtain ⟨n1, n2⟩ := List.nodup_cons.mp nd
    refine SR.rest h0 ff (vs := vs) n2 ?_
    have e1 : (L2.wipe σ vs)[v]? = σ[v]? := wipe_out n1
    cases eo : σ[v]? with
    | none =>
      have : L2.wipe σ (v :: vs) = L2.wipe σ vs := by
        show (L2.wipe σ vs).set v none = _
        exact List.set_eq_of_length_le (by rw [eo] at e1; exact List.getElem?_eq_none_iff.mp e1)
      rw [this] at h
      have hl : l.set v (keepS s.sl[v]?) = l := List.set_eq_of_length_le (by
        have := h.len
        rw [eo] at e1
        have := List.getElem?_eq_none_iff.mp e1
        show l.length ≤ v
        have h2 : (L2.wipe σ vs).length = l.length := h.len
        omega)
      rw [hl]
      exact h
    | some o =>
      have q := h.put' (i := v) (o := o) (l := keepS s.sl[v]?) (by
        cases es : s.sl[v]? with
        | none => exact True.intro
        | some l' =>
          cases l' with
          | un => exact True.intro
          | ow d => exact True.intro
          | sh d =>
            obtain ⟨w, ew, dw⟩ := h0.sl v o _ eo es
            exact ⟨w, ew, dw.mono ff⟩) (keep_ne _)
      have e2 : (L2.wipe σ (v :: vs)).set v o = L2.wipe σ vs := by
        show ((L2.wipe σ vs).set v none).set v o = _
        rw [List.set_set]
        exact set_same (by rw [e1, eo])
      rw [e2] at q
      exact q
end
/-- a target that changes the slots vs alone -/
def tGv (K : PySem.W.Frag) (P : Option Addr) (F0 H0 : Hp) (vs : List Nat) (t : Tg) : TG := fun v σ H Q => ∃ F s d s', SR K P F0 H0 F σ H s ∧ DR K P F v d ∧ t d s = some s' ∧ ∀ σ', wipe σ' vs = wipe σ vs → (∀ (i : Nat) (d : D), s'.sl[i]? = some (Sl.ow d) → s.sl[i]? = some (Sl.ow d)) → (∀ (i : Nat) (d : D), s'.sl[i]? = some (Sl.ow d) → σ'[i]? = σ[i]?) → SR K P F0 H0 F σ' H s' → Q σ' H
def tGvs (K : PySem.W.Frag) (P : Option Addr) (F0 H0 : Hp) (vs : List Nat) (t : List D → S → Option S) : TGs := fun v σ H Q => ∃ F s d s', SR K P F0 H0 F σ H s ∧ DRs K P F v d ∧ t d s = some s' ∧ ∀ σ', wipe σ' vs = wipe σ vs → (∀ (i : Nat) (d : D), s'.sl[i]? = some (Sl.ow d) → s.sl[i]? = some (Sl.ow d)) → (∀ (i : Nat) (d : D), s'.sl[i]? = some (Sl.ow d) → σ'[i]? = σ[i]?) → SR K P F0 H0 F σ' H s' → Q σ' H
section
variable {X : Cx} {P : Option Addr} {F0 H0 : Hp} {pos : Pos} {vs : List Nat}
theorem gv_name (i : Nat) {x : Str} (hN : X.N.Nodup) (hm : i ∈ vs := by decide) (hi : X.N[i]? = some x := by rfl) (hx : Loc X.env.scope x := by first | exact .inl rfl | exact .inr rfl) (hf : X.fn x = true ∨ X.env.scope.names.lookup x = some .local := by first | exact .inl rfl | exact .inr rfl) : PG X (.Name x pos) (tGv X.K P F0 H0 vs (tgName i)) := by
  refine PG.con (pg_name hN hi hx hf) fun v σ H Q ⟨F, s, d, s', w, dv, e, q⟩ => ?_
  cases e
  have k : ∀ (j : Nat) (d' : D), (s.sl.set i (.sh d))[j]? = some (.ow d') → s.sl[j]? = some (.ow d') := fun j d' h => ow_set (fun d z => by cases z) h
  refine q _ (wipe_set' hm) k (fun j d' h => ?_) (w.put dv)
  by_cases hj : i = j
  · subst hj
    have h' : (s.sl.set i (.sh d))[i]? = some (.ow d') := h
    have := k i d' h'
    rw [List.getElem?_set_self (List.getElem?_eq_some_iff.mp this).1] at h'
    cases h'
  · exact List.getElem?_set_ne hj
theorem gv_nil : PGs X [] (tGvs X.K P F0 H0 vs tgNil) := PGs.con pgs_nil fun us σ H Q ⟨F, s, ds, s', w, dv, e, q⟩ => by
  cases dv with
  | nil =>
    cases e
    exact ⟨rfl, q σ rfl (fun _ _ z => z) (fun _ _ _ => rfl) w⟩
  | cons h t => cases e
theorem gv_cons {e : Expr} {es : List Expr} {t : Tg} {u : List D → S → Option S} (h1 : PG X e (tGv X.K P F0 H0 vs t)) (h2 : PGs X es (tGvs X.K P F0 H0 vs u))
    (hs : (assignEach (e :: es) X.env).map (·.2) = assign e X.env :: (assignEach es X.env).map (·.2) := by rfl) : PGs X (e :: es) (tGvs X.K P F0 H0 vs (tgCons t u)) := by
  refine PGs.con (pgs_cons h1 h2 hs) fun us σ H Q ⟨F, s, ds, s', w, dv, e, q⟩ => ?_
  cases dv with
  | nil => cases e
  | @cons v0 d0 vs0 ds0 h t' =>
    have e' : (match t d0 s with
      | some s1 => u ds0 s1
      | none => none) = some s' := e
    cases e1 : t d0 s with
    | none =>
      rw [e1] at e'
      cases e'
    | some s1 =>
      rw [e1] at e'
      exact ⟨_, _, rfl, F, s, _, s1, w, h, e1, fun σ1 b1 b2 b3 w1 => ⟨F, s1, _, s', w1, t', e', fun σ2 c1 c2 c3 w2 => q σ2 (c1.trans b1) (fun i d z => b2 i d (c2 i d z)) (fun i d z => (c3 i d z).trans (b3 i d (c2 i d z))) w2⟩⟩
theorem gv_tup {es : List Expr} {k n : Nat} {u : List D → S → Option S} (hc : X.calm = true) (h : PGs X es (tGvs X.K P F0 H0 vs u)) (hn : (assignEach es X.env).length = n := by rfl) (hst : (assignEach es X.env).findIdx? (·.1) = none := by rfl) : PG X (.Tuple es k pos) (tGv X.K P F0 H0 vs (tgTup n u)) := by
  refine PG.con (pg_tup hc h hn hst) fun v σ H Q ⟨F, s, d, s', w, dv, e, q⟩ => ?_
  unfold tgTup at e
  split at e
  · split at e
    · rename_i hl
      cases dv with
      | tup hT hr => exact ⟨_, _, rfl, same_sqT w.hr.sub hT, by rw [hr.length]; exact hl, F, s, _, s', w, hr, e, q⟩
    · cases e
  · cases e
/-- tests of a comprehension -/
def cYes : Sem1 Bool := fun s => some (true, s)
theorem c_none : PTs X [] (tT X.K P F0 H0 cYes) := ⟨fun pins s σ H Q I ⟨F, s', b, s2, w, e, q⟩ => by
  cases e
  exact pts_nil.run pins s σ H Q I (q F H .refl w)⟩
theorem c_one {c : Expr} {t : Sem1 Bool} (h : PT X c (tT X.K P F0 H0 t)) : PTs X [c] (tT X.K P F0 H0 t) := pts_one h
def cLoop (vs : List Nat) (t : Tg) (c : Sem1 Bool) (f : Sem1 D) : List D → S → Option (List D × S)
  | [], s => some ([], s)
  | d :: ds, s => match t d s with
    | some s1 => match c s1 with
      | some (true, s2) => match f s2 with
        | some (e, s3) => match cLoop vs t c f ds { s3 with sl := wipeS s3.sl vs } with
          | some (es, s4) => some (e :: es, s4)
          | none => none
        | none => none
      | some (false, s2) => cLoop vs t c f ds { s2 with sl := wipeS s2.sl vs }
      | none => none
    | none => none
def eComp (vs : List Nat) (i : Sem1 (List D)) (t : Tg) (c : Sem1 Bool) (f : Sem1 D) : Sem1 D := fun s => match i s with
  | some (ds, s1) => if ds.length ≤ LIM then
      match cLoop vs t c f ds { s1 with sl := wipeS s1.sl vs } with
      | some (es, s2) => some (.lst es, ⟨restS s1.sl s2.sl vs, s2.pot⟩)
      | none => none
    else none
  | none => none
theorem comp_of {wi : Sem1 (List D)} {t : Tg} {c : Sem1 Bool} {f : Sem1 D} (nd : vs.Nodup) (σ : St) (H : Hp) (Q : VK) (h : tN X.K P F0 H0 (eComp vs wi t c f) σ H Q) :
    tLc (tI X.K P F0 H0 wi) (tGv X.K P F0 H0 vs t) (tT X.K P F0 H0 c) (tV X.K P F0 H0 f) vs σ H Q := by
  obtain ⟨F, s, d, s', w, e, q⟩ := h
  unfold eComp at e
  split at e
  · rename_i ds s1 e1
    split at e
    · rename_i hl
      split at e
      · rename_i es s2 e2
        cases e
        refine ⟨F, s, ds, s1, w, e1, fun J F1 H1 x1 w1 it => fun D nD => ?_⟩
        obtain ⟨a1, a2, a3⟩ := w1.hr.free nD
        have nO := w1.noOw nD
        have g0 := Grow.updH (o := .lst []) w1.hr.sub nD
        refine ⟨fun i m H2 => i + m = ds.length ∧ ∃ F2 s3 acc accD rest, SR X.K P F0 H0 F2 (wipe σ vs) H2 s3 ∧ Same F1 F2 ∧ (∀ b o, H1 b = some o → P = some b ∨ H2 b = some o) ∧ (∀ (j : Nat) d, s3.sl[j]? = some (.ow d) → s1.sl[j]? = some (.ow d) ∧ (wipe σ vs)[j]? = σ[j]?) ∧
            (∀ b, P ≠ some b → H1 b ≠ none → F1 b = none → NoOw σ s1 b → F2 b = none) ∧ F2 D = none ∧ H2 D = some (.lst acc) ∧ DRs X.K P F2 acc accD ∧ acc.length ≤ i ∧ accD ++ rest = es ∧ cLoop vs t c f (ds.drop i) s3 = some (rest, s2),
          ⟨ds.length, by omega, F1, _, [], [], es, (w1.grow g0).wipe vs, Same.refl _, fun b o z => .inr (g0.same b o z), fun j d z => ⟨ow_wipe z, ?_⟩, fun b _ _ z _ => z, a3, upd_same, .nil, Nat.zero_le _, rfl, by rw [List.drop_zero]; exact e2⟩, fun i m H2 hW => ?_⟩
        · -- an owned slot is none of the block's
          have : j ∉ vs := fun hj => by
            have z' : (wipeS s1.sl vs)[j]? = some (.ow d) := z
            have : ∀ {ws : List Nat}, j ∈ ws → (wipeS s1.sl ws)[j]? ≠ some (.ow d) := by
              intro ws
              induction ws with
              | nil => intro h; cases h
              | cons u us ih =>
                intro h z
                have z2 : ((wipeS s1.sl us).set u .un)[j]? = some (.ow d) := z
                by_cases hu : u = j
                · subst hu
                  rw [List.getElem?_set] at z2
                  split at z2
                  · split at z2 <;> simp at z2
                  · contradiction
                · rw [List.getElem?_set_ne hu] at z2
                  exact ih ((List.mem_cons.mp h).resolve_left (Ne.symm hu)) z2
            exact this hj z'
          exact wipe_out this
        obtain ⟨hm, F2, s3, acc, accD, rest, w2, f2, hh2, ow2, nf2, fD, hD, dacc, lacc, ees, e3⟩ := hW
        have noD2 : NoOw (wipe σ vs) s3 D := fun j d z z2 => by
          obtain ⟨y1, y2⟩ := ow2 j d z
          rw [y2] at z2
          exact nO j d y1 z2
        cases hd : ds.drop i with
        | nil =>
          rw [hd] at e3
          cases e3
          have : ds.length ≤ i := List.drop_eq_nil_iff.mp hd
          refine .inl ⟨it.stop i F2 H2 f2 w2.hr.sub this, ?_⟩
          rw [List.append_nil] at ees
          subst ees
          have w3 : SR X.K P F0 H0 F2 σ H2 ⟨restS s1.sl s2.sl vs, s2.pot⟩ := w1.rest f2 nd w2
          refine q D F2 H2 ⟨x1.ff.trans f2, (fun b o z => (x1.hh b o z).elim .inl (hh2 b o)), fun j d z => x1.ow j d (ow2 j d (ow_rest z)).1, fun b hp hb hf no => ?_⟩ w3 (x1.none nD a2) fD a2 a1 (fun j d z z2 => ?_) ⟨acc, hD, dacc⟩
          · refine nf2 b hp ?_ (x1.nf b hp hb hf no) fun j d z => no j d (x1.ow j d z)
            cases k : H b with
            | none => exact absurd k hb
            | some o =>
              rcases x1.hh b o k with z | z
              · exact absurd z hp
              · rw [z]
                exact fun z => nomatch z
          · exact nO j d (ow2 j d (ow_rest z)).1 z2
        | cons d0 rest0 =>
          rw [hd] at e3
          obtain ⟨h1, h2⟩ := drop_cons hd
          have hlt : i < ds.length := (List.getElem?_eq_some_iff.mp h1).1
          refine .inr ⟨it.go i F2 H2 f2 w2.hr.sub hlt, fun H5 => ∃ F5 s5 acc' accD' rest', SR X.K P F0 H0 F5 (wipe σ vs) H5 s5 ∧ Same F1 F5 ∧ (∀ b o, H1 b = some o → P = some b ∨ H5 b = some o) ∧ (∀ (j : Nat) d, s5.sl[j]? = some (.ow d) → s1.sl[j]? = some (.ow d) ∧ (wipe σ vs)[j]? = σ[j]?) ∧
            (∀ b, P ≠ some b → H1 b ≠ none → F1 b = none → NoOw σ s1 b → F5 b = none) ∧ F5 D = none ∧ H5 D = some (.lst acc') ∧ DRs X.K P F5 acc' accD' ∧ acc'.length ≤ i + 1 ∧ accD' ++ rest' = es ∧ cLoop vs t c f (ds.drop (i + 1)) s5 = some (rest', s2),
            fun H5 h5 => ⟨m - 1, by omega, by omega, h5⟩, fun x H3 hy => ?_⟩
          obtain ⟨F3, g3, d3⟩ := it.yld i F2 H2 x H3 d0 f2 w2.hr.sub h1 hy
          have hDne : H2 D ≠ none := by rw [hD]; exact fun z => nomatch z
          have e3' : (match t d0 s3 with
            | some s1 => match c s1 with
              | some (true, s2) => match f s2 with
                | some (e, s3) => match cLoop vs t c f rest0 { s3 with sl := wipeS s3.sl vs } with
                  | some (es, s4) => some (e :: es, s4)
                  | none => none
                | none => none
              | some (false, s2) => cLoop vs t c f rest0 { s2 with sl := wipeS s2.sl vs }
              | none => none
            | none => none) = some (rest, s2) := e3
          split at e3'
          · rename_i s4 e4
            refine ⟨F3, s3, d0, s4, w2.grow g3, d3, e4, fun σ4 b1 b2 b3 w4 => ⟨b1.trans (wipe_wipe fun _ z => z), ?_⟩⟩
            -- what holds behind whatever the element does
            have back : ∀ {F6 H6 : Hp} {s6 : S}, Ex P σ4 F3 H3 s4 F6 H6 s6 → SR X.K P F0 H0 F6 σ4 H6 s6 → SR X.K P F0 H0 F6 (wipe σ vs) H6 { s6 with sl := wipeS s6.sl vs } ∧ Same F1 F6 ∧ (∀ b o, H1 b = some o → P = some b ∨ H6 b = some o) ∧ (∀ (j : Nat) d, (wipeS s6.sl vs)[j]? = some (.ow d) → s1.sl[j]? = some (.ow d) ∧ (wipe σ vs)[j]? = σ[j]?) ∧
                (∀ b, P ≠ some b → H1 b ≠ none → F1 b = none → NoOw σ s1 b → F6 b = none) ∧ F6 D = none ∧ H6 D = some (.lst acc) ∧ NoOw (wipe σ vs) { s6 with sl := wipeS s6.sl vs } D ∧ DRs X.K P F6 acc accD := fun {F6 H6 s6} x6 w6 => by
              have ow6 : ∀ (j : Nat) d, s6.sl[j]? = some (.ow d) → s3.sl[j]? = some (.ow d) ∧ σ4[j]? = (wipe σ vs)[j]? := fun j d z => ⟨b2 j d (x6.ow j d z), b3 j d (x6.ow j d z)⟩
              have w6' := w6.wipe vs
              rw [b1, wipe_wipe fun _ z => z] at w6'
              have no6 : ∀ {b : Addr}, NoOw (wipe σ vs) s3 b → NoOw σ4 s4 b := fun {b} no j d z z2 => by
                rw [b3 j d z] at z2
                exact no j d (b2 j d z) z2
              have nf6 : ∀ b, P ≠ some b → H2 b ≠ none → F2 b = none → NoOw (wipe σ vs) s3 b → F6 b = none := fun b hp hb hf no => by
                have k1 : F3 b = none := (g3.ex (P := P) (s := s3) (σ := σ)).nf b hp hb hf fun j d z z2 => by
                  obtain ⟨y1, y2⟩ := ow2 j d z
                  exact no j d z (by rw [y2]; exact z2)
                refine x6.nf b hp ?_ k1 (no6 no)
                cases k : H2 b with
                | none => exact absurd k hb
                | some o =>
                  rw [g3.same b o k]
                  exact fun z => nomatch z
              refine ⟨w6', (f2.trans g3.ff).trans x6.ff, fun b o z => ?_, fun j d z => ?_, fun b hp hb hf no => ?_, nf6 D a2 hDne fD noD2, ?_, fun j d z z2 => ?_, (dacc.mono g3.ff).mono x6.ff⟩
              · rcases hh2 b o z with y | y
                · exact .inl y
                · exact x6.hh b o (g3.same b o y)
              · exact ow2 j d (ow6 j d (ow_wipe z)).1
              · refine nf6 b hp ?_ (nf2 b hp hb hf no) fun j d z z2 => ?_
                · cases k : H1 b with
                  | none => exact absurd k hb
                  | some o =>
                    rcases hh2 b o k with z | z
                    · exact absurd z hp
                    · rw [z]
                      exact fun z => nomatch z
                · obtain ⟨y1, y2⟩ := ow2 j d z
                  rw [y2] at z2
                  exact no j d y1 z2
              · exact (x6.hh D _ (g3.same D _ hD)).resolve_left a2
              · exact noD2 j d (ow6 j d (ow_wipe z)).1 z2
            split at e3'
            · rename_i s5 e5
              refine ⟨F3, s4, true, s5, w4, e5, fun F5 H5 x5 w5 => iteT ?_⟩
              split at e3'
              · rename_i e s6 e6
                refine ⟨F5, s5, e, s6, w5, e6, fun y F6 H6 x6 w6 d6 => ?_⟩
                split at e3'
                · rename_i es' s7 e7
                  cases e3'
                  obtain ⟨v1, v2, v3, v4, v5, v6, v7, v8, v9⟩ := back (x5.trans x6) w6
                  refine ⟨acc, v7, lt_lim (Nat.lt_of_le_of_lt lacc (Nat.lt_of_lt_of_le hlt hl)), F6, _, acc ++ [y], accD ++ [e], es', v1.side v6 a2 a1 v8, v2, fun b o z => ?_, v4, v5, v6, upd_same, v9.append (.cons d6 .nil), by rw [List.length_append]; exact Nat.succ_le_succ lacc, by rw [List.append_assoc]; exact ees, by rw [h2]; exact e7⟩
                  rcases v3 b o z with k | k
                  · exact .inl k
                  · exact .inr (by rw [upd_ne (fun k2 => by rw [k2, nD] at z; cases z)]; exact k)
                · cases e3'
              · cases e3'
            · rename_i s5 e5
              refine ⟨F3, s4, false, s5, w4, e5, fun F5 H5 x5 w5 => iteF ?_⟩
              obtain ⟨v1, v2, v3, v4, v5, v6, v7, v8, v9⟩ := back x5 w5
              exact ⟨F5, _, acc, accD, rest, v1, v2, v3, v4, v5, v6, v7, v9, Nat.le_succ_of_le lacc, ees, by rw [h2]; exact e3'⟩
            · cases e3'
          · cases e3'
      · cases e
    · cases e
  · cases e
end
end VS
end
section
set_option Elab.async false
set_option linter.all false
set_option maxRecDepth 100000
set_option maxHeartbeats 4000000
namespace VS
open PySem PySem.Spec PyProof.Rows L2
/-! ### comprehensions as values -/
section
variable {X : Cx} {P : Option Addr} {F0 H0 : Hp}
end
/-! ### calls that know of the reprs under way -/
structure RmG (g : Bool) (k : Nat) (A : Around) : Prop where
  rm : Room k A
  gd : g = true → A.guards = some []
theorem RmG.mono {g : Bool} {j k : Nat} {A : Around} (r : RmG g k A) (h : j ≤ k) : RmG g j A := ⟨r.rm.mono h, r.gd⟩
theorem RmG.weak {g : Bool} {k : Nat} {A : Around} (r : RmG g k A) : RmG false k A := ⟨r.rm, fun z => nomatch z⟩
theorem RmG.deeper {g : Bool} {k : Nat} {A : Around} (r : RmG g (k + 1) A) (env : Env) : RmG g k (A.deeper env) := ⟨r.rm.deeper env, r.gd⟩
theorem RmG.in1 {g : Bool} {k : Nat} {A : Around} (r : RmG g (k + 1) A) : RmG g k A.in1 := ⟨r.rm.in1, r.gd⟩
theorem RmG.make {g : Bool} {k : Nat} {A : Around} (r : RmG g (k + 1) A) (C : Addr) (us : List Value) (kw : List (Str × Value)) : RmG g k (A.under (.builtin "type.__call__" ⟨.ref C :: us, kw⟩)) :=
  ⟨r.rm.make C us kw, fun z => by
    have e := r.gd z
    first | exact e | (simp [Around.under, Code.guards, Code.isGuard, guardIds, pushGuards, e])⟩
abbrev SpN := List VV → Hp → VK → Prop
structure FnG (g : Bool) (P : Program) (w : World) (K : PySem.W.Frag) (mg : Str → Option Value) (base : Heap) (k : Nat) (f : Addr) (fd : FuncData) (ps : List Str) (sp : SpN) : Prop where
  len : ∀ vs H Q, sp vs H Q → vs.length = ps.length
  run : ∀ (A : Around) (outer : List Env) (s : Shared) (H : Hp) (args : Args) (us : List Value) (vs : List VV) (Q : VK), RmG g k A → Env0 P w K mg base A outer s H → BindsTo s fd args (ps.zip us) → Vals vs us → sp vs H Q →
    codeAny (model P w) A (.call (.ref f) args) (CR CX0 outer P w H s Q fun _ _ _ => False) s
theorem FnG.mono {g : Bool} {P : Program} {w : World} {K : PySem.W.Frag} {mg : Str → Option Value} {base : Heap} {j k : Nat} {f : Addr} {fd : FuncData} {ps : List Str} {sp : SpN} (F : FnG g P w K mg base j f fd ps sp) (h : j ≤ k) : FnG g P w K mg base k f fd ps sp :=
  ⟨F.len, fun A outer s H args us vs Q r => F.run A outer s H args us vs Q (r.mono h)⟩
theorem FnG.strong {g : Bool} {P : Program} {w : World} {K : PySem.W.Frag} {mg : Str → Option Value} {base : Heap} {k : Nat} {f : Addr} {fd : FuncData} {ps : List Str} {sp : SpN} (F : FnG false P w K mg base k f fd ps sp) : FnG g P w K mg base k f fd ps sp :=
  ⟨F.len, fun A outer s H args us vs Q r => F.run A outer s H args us vs Q r.weak⟩
/-- an outcome of a call -/
theorem back_of {X : Cx} {pins : List (Addr × Obj)} {σ : St} {H : Hp} {s s' : Shared} {Q : VK} {R : Value → Shared → Prop} {E : Value → Shared → Prop} {r : Result} (I : Inv X pins σ H s) (h : CR CX0 X.stack X.prog X.w H s Q (fun _ _ _ => False) r s')
    (q : ∀ u, EP X pins σ Q u s' → R u s') : match r with
      | .ok (.ret u) => R u s'
      | .ok _ => False
      | .error e => E e s' := by
  cases r with
  | error e => exact False.elim h
  | ok fl =>
    cases fl with
    | ret u => exact q u (I.after h)
    | next => exact False.elim h
    | brk => exact False.elim h
    | cont => exact False.elim h
section
variable {X : Cx} {g : Bool} {k : Nat} {f C : Addr} {fd : FuncData} {ps : List Str} {sp : SpN}
/-- the callee runs, the binding in hand -/
theorem FnG.go {pins : List (Addr × Obj)} {σ : St} {H : Hp} {s : Shared} {Q : VK} {E : Value → Shared → Prop} {us zs : List Value} {vs : List VV} {kw : List (Str × Value)} (F : FnG g X.prog X.w X.K X.mg X.base k f fd ps sp) (hr : RmG g k X.A)
    (I : Inv X pins σ H s) (hb : BindsTo s fd ⟨us, kw⟩ (ps.zip zs)) (r : Vals vs zs) (h : sp vs H Q) : wpAny (model X.prog X.w) X.A (call (.ref f) us kw) (EP X pins σ Q) E s := by
  refine wpAny_call (codeAny_mono (F.run X.A X.stack s H ⟨us, kw⟩ zs vs Q hr I.env0 hb r h) fun r s' hq => ?_)
  have := back_of (R := EP X pins σ Q) (E := E) I hq fun u z => z
  cases r with
  | error e => exact this
  | ok fl =>
    cases fl with
    | ret u => exact this
    | next => exact False.elim this
    | brk => exact False.elim this
    | cont => exact False.elim this
theorem FnG.goB {pins : List (Addr × Obj)} {σ : St} {H : Hp} {s : Shared} {Q : VK} {E : Value → Shared → Prop} {us ds : List Value} {vs dvs : List VV} (F : FnG g X.prog X.w X.K X.mg X.base k f fd ps sp) (hr : RmG g k X.A) (hb : Binds X.K fd ps ds) (hd : Vals dvs ds)
    (I : Inv X pins σ H s) (r : Vals vs us) (h : sp (vs ++ dvs) H Q) : wpAny (model X.prog X.w) X.A (call (.ref f) us) (EP X pins σ Q) E s := by
  have r2 := r.append hd
  exact F.go hr I (hb s us I.kIn (by rw [← r2.length]; exact F.len _ _ _ h)) r2 h
theorem FnG.goK {pins : List (Addr × Obj)} {σ : St} {H : Hp} {s : Shared} {Q : VK} {E : Value → Shared → Prop} {us ws : List Value} {vs zs : List VV} {ks : List Str} {gg : List Value → List Value → List Value} {gV : List VV → List VV → List VV}
    (F : FnG g X.prog X.w X.K X.mg X.base k f fd ps sp) (hr : RmG g k X.A) (hb : KBinds X.K fd ps ks gg gV)
    (I : Inv X pins σ H s) (r : Vals vs us) (rz : Vals zs ws) (h : sp (gV vs zs) H Q) : wpAny (model X.prog X.w) X.A (call (.ref f) us (ks.zip ws)) (EP X pins σ Q) E s := by
  have r2 := hb.rel r rz
  exact F.go hr I (hb.to s us ws I.kIn (by rw [← r2.length]; exact F.len _ _ _ h)) r2 h
/-- an instance is made -/
theorem FnG.made {pins : List (Addr × Obj)} {σ : St} {H : Hp} {s : Shared} {Q : VK} {E : Value → Shared → Prop} {us zs : List Value} {vs : List VV} {kw : List (Str × Value)} (M : Mk X.K C f) (F : FnG g X.prog X.w X.K X.mg X.base k f fd ps sp) (hr : RmG g (k + 1) X.A)
    (I : Inv X pins σ H s) (r : Vals vs zs) (hb : ∀ (s' : Shared) (u : Value), X.K.In s'.heap → BindsTo s' fd ⟨u :: us, kw⟩ (ps.zip (u :: zs)))
    (h : ∀ x dx, H x = none → H dx = none → dx ≠ x → sp (.ref x :: vs) (upd (upd H dx (.own x)) x (.ins C dx [])) (fun v H2 => v = .non ∧ Q (.ref x) H2)) :
    wpAny (model X.prog X.w) X.A (call (.ref C) us kw) (EP X pins σ Q) E s := by
  have I2 := Inv.made (C := C) I
  have hq := h _ _ (I.hok.fresh (Nat.le_succ _)) (I.hok.fresh (Nat.le_refl _)) (Nat.ne_of_lt (Nat.lt_succ_self _))
  have go := F.run _ X.stack _ _ ⟨Value.ref (s.heap.objs.size + 1) :: us, kw⟩ (Value.ref (s.heap.objs.size + 1) :: zs) _ _ (hr.make C us kw) (I2.env0.make C us kw) (hb _ _ I2.kIn) (show Vals (V.ref (s.heap.objs.size + 1) :: vs) _ from .cons rfl r) hq
  refine wpAny_call (make_map (f := f) I.kIn M.makes M.init (beq_iff_eq.mp M.fn) (codeAny_mono go fun r s' z => ?_))
  cases r with
  | error e => exact False.elim z
  | ok fl =>
    cases fl with
    | ret u =>
      obtain ⟨v, H', I3, rv, ev, q3⟩ := I2.after z
      cases ev
      exact ⟨rv, V.ref (s.heap.objs.size + 1), H', I3, rfl, q3⟩
    | next => exact False.elim z
    | brk => exact False.elim z
    | cont => exact False.elim z
end
/-! ### a def's meaning -/
abbrev Pt := Option (Int × Int)
abbrev Fn := List D → Pt → Option (D × Pt)
/-- the promise of a def that means f, of n parameters -/
def spF (K : PySem.W.Frag) (n : Nat) (f : Fn) : SpN := fun vs H Q => vs.length = n ∧ ∃ P F ds pt d pt', HR P F H F H pt ∧ DRs K P F vs ds ∧ f ds pt = some (d, pt') ∧ ∀ v F' H', HR P F H F' H' pt' → DR K P F' v d → Q v H'
/-- .. of an __init__; n: without self -/
def spI (K : PySem.W.Frag) (C : Addr) (n : Nat) (f : Fn) : SpN := fun vs H Q => vs.length = n + 1 ∧ ∃ P F us ds pt d pt' x dx H0, vs = .ref x :: us ∧ H = upd (upd H0 dx (.own x)) x (.ins C dx []) ∧ H0 x = none ∧ H0 dx = none ∧ dx ≠ x ∧ HR P F H0 F H0 pt ∧ DRs K P F us ds ∧ f ds pt = some (d, pt') ∧
  ∀ F' H', HR P F H0 F' H' pt' → DR K P F' (.ref x) d → Q .non H'
def atD (n : Nat) (ds : List D) (pt : Pt) : S := ⟨ds.map .sh ++ List.replicate (n - ds.length) .un, pt⟩
/-- the meaning of a body: n slots -/
def fnB (n : Nat) (b : S → Option Fl) : Fn := fun ds pt => match b (atD n ds pt) with
  | some (.rt d pt') => some (d, pt')
  | some (.nx s) => some (.non, s.pot)
  | none => none
/-- within an __init__: the frame, the attributes' names, their values -/
abbrev Si := S × List Str × List D
def atI (n : Nat) (ds : List D) (pt : Pt) : S := ⟨.un :: (ds.map .sh ++ List.replicate (n - (ds.length + 1)) .un), pt⟩
def fnI (n : Nat) (C : Addr) (b : Si → Option Si) : Fn := fun ds pt => match b (atI n ds pt, [], []) with
  | some (s, ns, ds') => some (.ins C ns ds', s.pot)
  | none => none
/-- how an __init__ stands: x is the new instance -/
structure IR (K : PySem.W.Frag) (P : Option Addr) (F0 H0 F : Hp) (x C : Addr) (σ : St) (H : Hp) (s : S) (ns : List Str) (ds : List D) : Prop where
  w : SR K P F0 H0 F σ H s
  me : σ[0]? = some (some (.ref x))
  un : s.sl[0]? = some .un
  fx : F x = none
  px : P ≠ some x
  hx : H0 x = none
  no : NoOw σ s x
  ob : OwR K P F H x (.ins C ns ds)
def tS0 (K : PySem.W.Frag) (P : Option Addr) (F0 H0 : Hp) (x C : Addr) (b : Si → Option Si) : TS := fun D σ H => ∃ F s ns ds s' ns' ds', IR K P F0 H0 F x C σ H s ns ds ∧ b (s, ns, ds) = some (s', ns', ds') ∧ ∀ σ' F' H', IR K P F0 H0 F' x C σ' H' s' ns' ds' → D.nx σ' H'
theorem sr_start {K : PySem.W.Frag} {P : Option Addr} {F H : Hp} {N : List Str} {vs : List VV} {ds : List D} {pt : Pt} (hr : HR P F H F H pt) (r : DRs K P F vs ds) (hl : vs.length ≤ N.length) : SR K P F H F (L2.start N vs) H (atD N.length ds pt) := by
  have e := r.length
  have noow : ∀ (i : Nat) (d : D), (atD N.length ds pt).sl[i]? ≠ some (.ow d) := fun i d z => by
    unfold atD at z
    by_cases hi : i < (ds.map Sl.sh).length
    · rw [List.getElem?_append_left hi, List.getElem?_map] at z
      cases q : ds[i]? with
      | none => rw [q] at z; cases z
      | some d' => rw [q] at z; cases z
    · rw [List.getElem?_append_right (by omega), List.getElem?_replicate] at z
      split at z <;> cases z
  refine ⟨hr, ?_, fun i o l e1 e2 => ?_, fun i j a d d' _ z => absurd z (noow i d), fun i a d _ z => absurd z (noow i d)⟩
  · unfold L2.start atD
    simp only [List.length_append, List.length_map, List.length_replicate]
    omega
  · unfold L2.start at e1
    unfold atD at e2
    by_cases hi : i < vs.length
    · have h1 : i < (vs.map some).length := by simpa using hi
      have h2 : i < (ds.map Sl.sh).length := by rw [List.length_map, ← e]; exact hi
      have e1 : (vs.map some ++ List.replicate (N.length - vs.length) none)[i]? = some o := e1
      have e2 : (ds.map Sl.sh ++ List.replicate (N.length - ds.length) Sl.un)[i]? = some l := e2
      rw [List.getElem?_append_left h1, List.getElem?_map] at e1
      rw [List.getElem?_append_left h2, List.getElem?_map] at e2
      cases q : ds[i]? with
      | none => rw [q] at e2; cases e2
      | some d =>
        rw [q] at e2
        cases e2
        obtain ⟨v, h3, h4⟩ := r.get q
        rw [h3] at e1
        cases e1
        exact ⟨v, rfl, h4⟩
    · have e2 : (ds.map Sl.sh ++ List.replicate (N.length - ds.length) Sl.un)[i]? = some l := e2
      rw [List.getElem?_append_right (by rw [List.length_map, ← e]; omega), List.getElem?_replicate] at e2
      split at e2 <;> cases e2
      exact True.intro
section
variable {P : Program} {w : World} {K : PySem.W.Frag} {mg : Str → Option Value} {base : Heap} {x qual : Str} {params : Arguments} {body : List Stmt} {scope : Scope} {dvs : List VV} {kws : List (Str × VV)} {f : Addr} {fd : FuncData} {N ps : List Str} {g : Bool} {k : Nat}
theorem def_run {sp : SpN} (F : FunD K x qual params body scope dvs kws f fd) (Sc : FnScope N ps scope) (len : ∀ vs H Q, sp vs H Q → vs.length = ps.length)
    (hbody : ∀ (cdv : Value) (A : Around) (outer : List Env) (s : Shared) (H : Hp) (vs : List VV) (Q : VK), RmG g k (A.deeper (envOfC qual scope s.heap.objs.size f cdv)) → sp vs H Q →
      ∃ t, PSs (cxOf CX0 P w K mg base N qual scope f cdv A outer s H fun _ _ _ => False).nox body t ∧ t { nx := fun _ H' => Q .non H', rt := Q } (L2.start N vs) H) : FnG g P w K mg base (k + 1) f fd ps sp := by
  obtain ⟨oc, od, dV, kV, doc, pm, an, cdv, ct, osl, rfl, lk, hcd, _, _⟩ := F.ex
  refine ⟨len, fun A outer s H args us vs Q hr e0 hb r hsp => ?_⟩
  have hin : K.In s.heap := e0.mod.kin.keeps fun b o e => (e0.bs b o e).1
  have hloc : ∀ y ∈ ps.zip us, scope.names.lookup y.1 = some .local ∨ (scope.names.lookup y.1 = some .cell ∧ ((cellsFrom (s.heap.objs.size + 1) scope.names []).lookup y.1).isSome = true) := by
    rintro ⟨n, v⟩ hy
    exact (Sc.par n (List.of_mem_zip hy).1).elim .inl fun q => .inr ⟨q, PySem.W.cellsFrom_some _ _ _ (.inl q)⟩
  refine codeAny_call_function hr.rm.depth (hin _ _ lk) rfl Sc.co Sc.gen rfl (PySem.W.codeRec_of hin hcd) (hb _ _ _ _ (wpAny_newFunctionEnv_cells Sc.kind hloc fun env he s1 x => ?_))
  cases he
  refine ⟨(e0.mod.nolimit.keeps fun b o e => (e0.bs b o e).1).keeps x.toInCall.keep, codeAny_func ?_⟩
  obtain ⟨t, ht, hq⟩ := hbody cdv A outer s H vs Q (hr.deeper _) hsp
  have I := inv_start (CX := CX0) (E := fun _ _ _ => False) Sc hr.rm.hd e0 (len _ _ _ hsp) r x
  refine wpAny_mono (ht.nox.run [] s1 _ H _ I hq) (fun fl s' hs => ?_) fun _ _ z => z
  cases fl with
  | ret u =>
    obtain ⟨v, σ', H', J, rv, q⟩ := hs
    exact ⟨v, H', J.os, J.bare, J.base, J.hok, rv, q⟩
  | next =>
    obtain ⟨σ', H', J, q⟩ := hs
    exact ⟨.non, H', J.os, J.bare, J.base, J.hok, rfl, q⟩
  | brk =>
    obtain ⟨_, _, _, q⟩ := hs
    exact q.elim
  | cont =>
    obtain ⟨_, _, _, q⟩ := hs
    exact q.elim
/-- a def means what its body means -/
theorem def_of {b : S → Option Fl} (F : FunD K x qual params body scope dvs kws f fd) (Sc : FnScope N ps scope) 
    (hbody : ∀ (cdv : Value) (A : Around) (outer : List Env) (s : Shared) (H : Hp), RmG g k (A.deeper (envOfC qual scope s.heap.objs.size f cdv)) → ∀ (P0 : Option Addr) (F0 H0 : Hp),
      PSs (cxOf CX0 P w K mg base N qual scope f cdv A outer s H fun _ _ _ => False).nox body (tS K P0 F0 H0 b)) : FnG g P w K mg base (k + 1) f fd ps (spF K ps.length (fnB N.length b)) := by
  refine def_run F Sc (fun vs H Q h => h.1) fun cdv A outer s H vs Q hr ⟨hl, P0, F0, ds, pt, d, pt', h0, r, e, q⟩ => ⟨_, hbody cdv A outer s H hr P0 F0 H, ?_⟩
  have hpl : ps.length ≤ N.length := by
    have := congrArg List.length Sc.pre
    rw [List.length_take] at this
    omega
  unfold fnB at e
  split at e
  · rename_i d1 pt1 e1
    cases e
    exact ⟨F0, _, _, sr_start h0 r (by omega), e1, fun v F' H' h2 d2 => q v F' H' h2 d2⟩
  · rename_i s1 e1
    cases e
    exact ⟨F0, _, _, sr_start h0 r (by omega), e1, fun σ' F' H' f2 w2 => q .non F' H' w2.hr .non⟩
  · cases e
/-- an __init__ means what its body makes of self -/
theorem init_of {b : Si → Option Si} {C : Addr} (F : FunD K x qual params body scope dvs kws f fd) (Sc : FnScope N (("self" : Str) :: ps) scope) 
    (hbody : ∀ (cdv : Value) (A : Around) (outer : List Env) (s : Shared) (H : Hp), RmG g k (A.deeper (envOfC qual scope s.heap.objs.size f cdv)) → ∀ (P0 : Option Addr) (F0 H0 : Hp) (x : Addr),
      PSs (cxOf CX0 P w K mg base N qual scope f cdv A outer s H fun _ _ _ => False).nox body (tS0 K P0 F0 H0 x C b)) : FnG g P w K mg base (k + 1) f fd (("self" : Str) :: ps) (spI K C ps.length (fnI N.length C b)) := by
  refine def_run F Sc (fun vs H Q h => h.1) fun cdv A outer s H vs Q hr ⟨hl, P0, F0, us, ds, pt, d, pt', x, dx, H0, ev, eH, nx, ndx, ne, h0, r, e, q⟩ => ⟨_, hbody cdv A outer s H hr P0 F0 H0 x, ?_⟩
  have hpl : ps.length + 1 ≤ N.length := by
    have := congrArg List.length Sc.pre
    rw [List.length_take] at this
    simp only [List.length_cons] at this
    omega
  subst ev eH
  have hul : us.length + 1 ≤ N.length := by
    have : us.length + 1 = ps.length + 1 := hl
    omega
  have g1 : Grow none F0 H0 F0 (upd (upd H0 dx (.own x)) x (.ins C dx [])) := by
    exact ⟨Same.refl _, fun b o e => .inr (by rw [upd_ne (ne_of_none e nx), upd_ne (ne_of_none e ndx)]; exact e), fun b o e => by rw [upd_ne (ne_of_none (h0.sub _ _ e) nx), upd_ne (ne_of_none (h0.sub _ _ e) ndx)]; exact h0.sub _ _ e, fun b e => .inl e⟩
  obtain ⟨_, px, fx⟩ := h0.free nx
  have el : us.length = ds.length := r.length
  have sl0 : ∀ (i : Nat) (d : D), (atI N.length ds pt).sl[i]? ≠ some (.ow d) := fun i d z => by
    cases i with
    | zero => cases z
    | succ i =>
      have z : (ds.map Sl.sh ++ List.replicate (N.length - (ds.length + 1)) Sl.un)[i]? = some (.ow d) := z
      by_cases hi : i < (ds.map Sl.sh).length
      · rw [List.getElem?_append_left hi, List.getElem?_map] at z
        cases q : ds[i]? with
        | none => rw [q] at z; cases z
        | some d' => rw [q] at z; cases z
      · rw [List.getElem?_append_right (by omega), List.getElem?_replicate] at z
        split at z <;> cases z
  have w0 : SR K P0 F0 H0 F0 (L2.start N (.ref x :: us)) (upd (upd H0 dx (.own x)) x (.ins C dx [])) (atI N.length ds pt) := by
    have hh := h0.grow g1
    refine ⟨hh, ?_, fun i o l e1 e2 => ?_, fun i j a d d' e1 e2 e3 e4 => absurd e2 (sl0 i d), fun i a d e1 e2 => absurd e2 (sl0 i d)⟩
    · unfold L2.start atI
      simp only [List.length_append, List.length_map, List.length_replicate, List.length_cons]
      omega
    · cases i with
      | zero =>
        cases e1
        cases e2
        exact True.intro
      | succ i =>
        have e1 : (us.map some ++ List.replicate (N.length - (us.length + 1)) none)[i]? = some o := e1
        have e2 : (ds.map Sl.sh ++ List.replicate (N.length - (ds.length + 1)) Sl.un)[i]? = some l := e2
        by_cases hi : i < us.length
        · have h1 : i < (us.map some).length := by simpa using hi
          have h2 : i < (ds.map Sl.sh).length := by rw [List.length_map, ← el]; exact hi
          rw [List.getElem?_append_left h1, List.getElem?_map] at e1
          rw [List.getElem?_append_left h2, List.getElem?_map] at e2
          cases q : ds[i]? with
          | none => rw [q] at e2; cases e2
          | some d =>
            rw [q] at e2
            cases e2
            obtain ⟨v, h3, h4⟩ := r.get q
            rw [h3] at e1
            cases e1
            exact ⟨v, rfl, h4⟩
        · rw [List.getElem?_append_right (by rw [List.length_map, ← el]; omega), List.getElem?_replicate] at e2
          split at e2 <;> cases e2
          exact True.intro
  unfold fnI at e
  split at e
  · rename_i s1 ns1 ds1 e1
    cases e
    refine ⟨F0, _, [], [], s1, ns1, ds1, ⟨w0, rfl, rfl, fx, px, nx, fun i d z => absurd z (sl0 i d), dx, [], upd_same, rfl, .nil⟩, e1, fun σ' F' H' J => ?_⟩
    obtain ⟨dx', fs', hx', en, rd⟩ := J.ob
    have ff : Same F' (upd F' x (.ins C dx' fs')) := fun b z q => by
      rw [upd_ne (ne_of_none q J.fx)]
      exact q
    refine q (upd F' x (.ins C dx' fs')) H' ⟨⟨J.w.hr.g.ff.trans ff, J.w.hr.g.hh, fun b o z => ?_, fun b z => ?_⟩, fun a c z => ?_, J.w.hr.pn⟩ (.ins upd_same en (rd.mono ff))
    · by_cases hb : b = x
      · subst hb
        rw [upd_same] at z
        cases z
        exact hx'
      · rw [upd_ne hb] at z
        exact J.w.hr.sub b o z
    · by_cases hb : b = x
      · subst hb
        exact .inr nx
      · rw [upd_ne hb] at z
        exact J.w.hr.g.nf b z
    · obtain ⟨p, z1, z2, z3⟩ := J.w.hr.pot a c z
      exact ⟨p, z1, by rw [upd_ne (fun z => J.px (by rw [z1, z]))]; exact z2, z3⟩
  · cases e
end
end VS
end
section
set_option Elab.async false
set_option linter.all false
set_option maxRecDepth 100000
set_option maxHeartbeats 4000000
namespace VS
open PySem PySem.Spec PyProof.Rows L2
theorem HR.ex {P : Option Addr} {F H F' H' : Hp} {σ : St} {s : S} {pt : Pt} (h : HR P F H F' H' pt) : Ex P σ F H s F' H' { s with pot := pt } := ⟨h.g.ff, h.g.hh, fun _ _ e => e, fun b hp hh hf _ => by
  cases q : F' b with
  | none => rfl
  | some o =>
    rcases h.g.nf b (by rw [q]; exact fun z => nomatch z) with z | z
    · exact absurd hf z
    · exact absurd z hh⟩
/-! ### binding -/
def pick {α : Type} (is : List Nat) (l : List α) : List α := is.filterMap fun i => l[i]?
theorem DRs.pick {K : PySem.W.Frag} {P : Option Addr} {F : Hp} {vs : List VV} {ds : List D} (r : DRs K P F vs ds) : ∀ is : List Nat, DRs K P F (VS.pick is vs) (VS.pick is ds)
  | [] => .nil
  | i :: is => by
    unfold VS.pick
    rw [List.filterMap_cons, List.filterMap_cons]
    cases e : ds[i]? with
    | none =>
      have : vs[i]? = none := List.getElem?_eq_none_iff.mpr (by rw [r.length]; exact List.getElem?_eq_none_iff.mp e)
      rw [this]
      exact DRs.pick r is
    | some d =>
      obtain ⟨v, h1, h2⟩ := r.get e
      rw [h1]
      exact .cons h2 (DRs.pick r is)
theorem vals_pick {vs : List VV} {us : List Value} (r : Vals vs us) : ∀ is : List Nat, Vals (pick is vs) (pick is us)
  | [] => .nil
  | i :: is => by
    unfold pick
    rw [List.filterMap_cons, List.filterMap_cons]
    cases e : vs[i]? with
    | none =>
      have : us[i]? = none := List.getElem?_eq_none_iff.mpr (by rw [← r.length]; exact List.getElem?_eq_none_iff.mp e)
      rw [this]
      exact vals_pick r is
    | some d =>
      obtain ⟨v, h1, h2⟩ := r.get e
      rw [h1]
      exact .cons h2 (vals_pick r is)
theorem pick_len {α : Type} {l : List α} : ∀ {is : List Nat}, (∀ i ∈ is, i < l.length) → (pick is l).length = is.length
  | [], _ => rfl
  | i :: is, h => by
    unfold pick
    rw [List.filterMap_cons, List.getElem?_eq_getElem (h i List.mem_cons_self)]
    exact congrArg Nat.succ (pick_len fun j hj => h j (List.mem_cons_of_mem _ hj))
/-- n values are written, and keywords ks; behind them the defaults ds; is: which of all these each parameter gets -/
structure BK (K : PySem.W.Frag) (fd : FuncData) (ps : List Str) (n : Nat) (ks : List Str) (is : List Nat) (ds : List Value) : Prop where
  to : ∀ (s : Shared) (us ws : List Value), K.In s.heap → us.length = n → ws.length = ks.length → BindsTo s fd ⟨us, ks.zip ws⟩ (ps.zip (pick is (us ++ (ws ++ ds))))
section
variable {K : PySem.W.Frag} {x qual : Str} {params : Arguments} {body : List Stmt} {scope : Scope} {dvs : List VV} {kws : List (Str × VV)} {f : Addr} {fd : FuncData} {ps : List Str}
theorem bk0 (F : FunD K x qual params body scope [] kws f fd) (n : Nat) (ks : List Str) (is : List Nat)
    (h : ∀ (kV doc pm : Value) (an : Option Addr) (cdv ct : Value) (us ws : List Value), us.length = n → ws.length = ks.length → bindArgs (PySem.W.fnOf x qual params body scope .none kV doc pm an cdv ct) ⟨us, ks.zip ws⟩ = pure (ps.zip (pick is (us ++ (ws ++ []))))) : BK K fd ps n ks is [] := by
  obtain ⟨oc, od, dV, kV, doc, pm, an, cdv, ct, osl, rfl, lk, hcd, hD, hK⟩ := F.ex
  rcases hD with ⟨_, rfl⟩ | ⟨e, _⟩
  · exact ⟨fun s us ws _ h1 h2 => .of_eq (h kV doc pm an cdv ct us ws h1 h2)⟩
  · exact absurd rfl e
theorem bk1 (F : FunD K x qual params body scope dvs kws f fd) (hd : dvs ≠ []) (n : Nat) (ks : List Str) (is : List Nat)
    (h : ∀ (T : Addr) (kV doc pm : Value) (an : Option Addr) (cdv ct : Value) (us ws its : List Value), us.length = n → ws.length = ks.length → its.length = dvs.length →
      ∃ k, bindArgs (PySem.W.fnOf x qual params body scope (.ref T) kV doc pm an cdv ct) ⟨us, ks.zip ws⟩ = seqItems? (.ref T) >>= k ∧ k (some its.toArray) = pure (ps.zip (pick is (us ++ (ws ++ its))))) : ∃ ds, Vals dvs ds ∧ BK K fd ps n ks is ds := by
  obtain ⟨oc, od, dV, kV, doc, pm, an, cdv, ct, osl, rfl, lk, hcd, hD, hK⟩ := F.ex
  rcases hD with ⟨e, _⟩ | ⟨_, T, o, its, m, rfl, lT, oT, rT⟩
  · exact absurd e hd
  · refine ⟨its, rT, ⟨fun s us ws X h1 h2 => BindsTo.of_looks fun M => ?_⟩⟩
    obtain ⟨k, e1, e2⟩ := h T kV doc pm an cdv ct us ws its h1 h2 rT.length.symm
    rw [e1]
    exact looks_items X lT oT (.of_pure e2)
end
/-! ### what a call writes -/
def PC (X : Cx) (P : Option Addr) (F0 H0 : Hp) (pos : Pos) (es : List Expr) (kws : List Keyword) (n : Nat) (ks : List Str) (f : Sem1 (List D)) : Prop :=
  ∀ (pins : List (Addr × Obj)) (s : Shared) (σ : St) (H : Hp) (fv : Value) (first : List Value) (Q : Value → Shared → Prop) (F : Hp) (st : S) (ds : List D) (st' : S), Inv X pins σ H s → PySem.W.keepIn X.K fv = true → SR X.K P F0 H0 F σ H st → f st = some (ds, st') →
    (∀ us ws vs zs s' F' H', us.length = n → ws.length = ks.length → Inv X pins σ H' s' → Vals vs us → Vals zs ws → Ex P σ F H st F' H' st' → SR X.K P F0 H0 F' σ H' st' → DRs X.K P F' (vs ++ zs) ds → wpAny (model X.prog X.w) X.A (call fv (first ++ us) (ks.zip ws)) Q X.xe s') →
    wpAny (model X.prog X.w) X.A (callWith pos fv first (backTo pos (starEach es X.env)) (backToKw pos (keywordEach kws X.env))) Q X.xe s
/-- how long an argument list is -/
def Len (X : Cx) (es : List Expr) (n : Nat) : Prop := ∀ (pos : Pos) (pins : List (Addr × Obj)) (s : Shared) (σ : St) (H : Hp), True
def tAn (n : Nat) (t : TA) : TA := fun σ H Q => t σ H fun vs H1 => vs.length = n → Q vs H1
theorem pa_len {X : Cx} : ∀ {es : List Expr} {t : TA}, PA X es t → PA X es t := fun h => h
section
variable {X : Cx} {P : Option Addr} {F0 H0 : Hp} {pos : Pos}
/-- argument lists know their length -/
structure PAn (X : Cx) (P : Option Addr) (F0 H0 : Hp) (es : List Expr) (n : Nat) (f : Sem1 (List D)) : Prop where
  pa : PA X es (tA X.K P F0 H0 f)
  ln : ∀ s ds s', f s = some (ds, s') → ds.length = n
theorem an_nil : PAn X P F0 H0 [] 0 aNil := ⟨a_nil, fun s ds s' e => by cases e; rfl⟩
theorem an_cons {f : Sem1 D} {g : Sem1 (List D)} {e : Expr} {es : List Expr} {n : Nat} (hf : PE X e (tV X.K P F0 H0 f)) (hg : PAn X P F0 H0 es n g) (hs : starEach (e :: es) X.env = (false, eval e X.env) :: starEach es X.env := by rfl) : PAn X P F0 H0 (e :: es) (n + 1) (aCons f g) := ⟨a_cons hf hg.pa hs, fun s ds s' e => by
  unfold aCons at e
  split at e
  · split at e
    · rename_i es2 s2 e2
      cases e
      exact congrArg Nat.succ (hg.ln _ _ _ e2)
    · cases e
  · cases e⟩
/-- keywords -/
structure PKn (X : Cx) (P : Option Addr) (F0 H0 : Hp) (kws : List Keyword) (n : Nat) (f : Sem1 (List D)) : Prop where
  pk : PK X kws (tA X.K P F0 H0 f)
  ln : ∀ s ds s', f s = some (ds, s') → ds.length = n
theorem PK.con {kws : List Keyword} {t t' : TA} (h : PK X kws t) (i : ∀ σ H Q, t' σ H Q → t σ H Q) : PK X kws t' := ⟨fun p pins s σ H Q I q => h.run p pins s σ H Q I (i _ _ _ q)⟩
theorem kn_nil : PKn X P F0 H0 [] 0 aNil := by
  refine ⟨PK.con pk_nil fun σ H Q ⟨F, s, d, s', r, e, q⟩ => ?_, fun s ds s' e => ?_⟩
  · cases e
    exact q _ F H .refl r .nil
  · cases e
    rfl
theorem kn_cons {f : Sem1 D} {g : Sem1 (List D)} {e : Expr} {kws : List Keyword} {n : Nat} {nm : Option Str} {kp : Pos} (hf : PE X e (tV X.K P F0 H0 f)) (hg : PKn X P F0 H0 kws n g) : PKn X P F0 H0 (⟨nm, e, kp⟩ :: kws) (n + 1) (aCons f g) := by
  refine ⟨PK.con (pk_cons hf hg.pk) fun σ H Q ⟨F, s, ds, s', r, e, q⟩ => ?_, fun s ds s' e => ?_⟩
  · unfold aCons at e
    split at e
    · rename_i d s1 e1
      split at e
      · rename_i es s2 e2
        cases e
        refine ⟨F, s, d, s1, r, e1, fun v F1 H1 x1 r1 d1 => ⟨F1, s1, es, s', r1, e2, fun vs F2 H2 x2 r2 d2 => ?_⟩⟩
        exact q _ F2 H2 (x1.trans x2) r2 (.cons (d1.mono x2.ff) d2)
      · cases e
    · cases e
  · unfold aCons at e
    split at e
    · split at e
      · rename_i es2 s2 e2
        cases e
        exact congrArg Nat.succ (hg.ln _ _ _ e2)
      · cases e
    · cases e
theorem PAn.go {es : List Expr} {n : Nat} {f : Sem1 (List D)} (h : PAn X P F0 H0 es n f) {pins : List (Addr × Obj)} {s : Shared} {σ : St} {H F : Hp} {st st' : S} {ds : List D} (I : Inv X pins σ H s) (w : SR X.K P F0 H0 F σ H st) (e : f st = some (ds, st')) (pos : Pos) :
    wpAny (model X.prog X.w) X.A (spliced (backTo pos (starEach es X.env))) (fun us s' => ∃ vs H1, Inv X pins σ H1 s' ∧ Vals vs us ∧ us.length = n ∧ ∃ F', SR X.K P F0 H0 F' σ H1 st' ∧ DRs X.K P F' vs ds ∧ Ex P σ F H st F' H1 st') X.xe s := by
  refine thn (h.pa.run pos pins s σ H (fun vs H1 => ∃ F', SR X.K P F0 H0 F' σ H1 st' ∧ DRs X.K P F' vs ds ∧ Ex P σ F H st F' H1 st') I ⟨F, st, ds, st', w, e, fun vs F' H' x w' r => ⟨F', w', r, x⟩⟩) fun us s1 ⟨vs, H1, I1, r1, F', w', r, x⟩ => ?_
  exact ⟨vs, H1, I1, r1, by rw [← r1.length, r.length]; exact h.ln _ _ _ e, F', w', r, x⟩
theorem PKn.go {kws : List Keyword} {n : Nat} {f : Sem1 (List D)} (h : PKn X P F0 H0 kws n f) {pins : List (Addr × Obj)} {s : Shared} {σ : St} {H F : Hp} {st st' : S} {ds : List D} (I : Inv X pins σ H s) (w : SR X.K P F0 H0 F σ H st) (e : f st = some (ds, st')) (pos : Pos) :
    wpAny (model X.prog X.w) X.A (evalAll ((backToKw pos (keywordEach kws X.env)).map (·.2))) (fun us s' => ∃ vs H1, Inv X pins σ H1 s' ∧ Vals vs us ∧ us.length = n ∧ ∃ F', SR X.K P F0 H0 F' σ H1 st' ∧ DRs X.K P F' vs ds ∧ Ex P σ F H st F' H1 st') X.xe s := by
  refine thn (h.pk.run pos pins s σ H (fun vs H1 => ∃ F', SR X.K P F0 H0 F' σ H1 st' ∧ DRs X.K P F' vs ds ∧ Ex P σ F H st F' H1 st') I ⟨F, st, ds, st', w, e, fun vs F' H' x w' r => ⟨F', w', r, x⟩⟩) fun us s1 ⟨vs, H1, I1, r1, F', w', r, x⟩ => ?_
  exact ⟨vs, H1, I1, r1, by rw [← r1.length, r.length]; exact h.ln _ _ _ e, F', w', r, x⟩
def aApp (f g : Sem1 (List D)) : Sem1 (List D) := fun s => match f s with
  | some (ds, s1) => match g s1 with
    | some (es, s2) => some (ds ++ es, s2)
    | none => none
  | none => none
theorem w_0 : PC X P F0 H0 pos [] [] 0 [] aNil := by
  intro pins s σ H fv first Q F st ds st' I hk w e q
  cases e
  exact PySem.W.callWith_K0 I.kIn hk (q [] [] [] [] s F H rfl rfl I .nil .nil .refl w .nil)
theorem w_p {e : Expr} {es : List Expr} {n : Nat} {f : Sem1 (List D)} (h : PAn X P F0 H0 (e :: es) n f) (he : starEach (e :: es) X.env = (false, eval e X.env) :: starEach es X.env := by rfl) (hpl : (backTo pos (starEach es X.env)).any (·.1) = false := by rfl) : PC X P F0 H0 pos (e :: es) [] n [] f := by
  intro pins s σ H fv first Q F st ds st' I hk w e1 q
  refine PySem.W.callWith_K (h₀ := X.base) I.ok.mod.kin hk (thn (h.go I w e1 pos) fun us s1 ⟨vs, H1, I1, r1, l1, F', w', r, x⟩ => ⟨I1.kIn, ?_⟩) he hpl
  exact q us [] vs [] s1 F' H1 l1 rfl I1 r1 .nil x w' (by rw [List.append_nil]; exact r)
theorem w_k {kw : Keyword} {kws : List Keyword} {n : Nat} {ks : List Str} {f : Sem1 (List D)} (h : PKn X P F0 H0 (kw :: kws) n f) (hn : ks.length = n) (hall : (backToKw pos (keywordEach (kw :: kws) X.env)).all (·.1.isSome) = true := by rfl) (hks : (backToKw pos (keywordEach (kw :: kws) X.env)).filterMap (·.1) = ks := by rfl)
    (hpl : ((backTo pos (starEach [] X.env)).any (·.1) || (backToKw pos (keywordEach (kw :: kws) X.env)).any (·.1.isNone)) = false := by rfl) : PC X P F0 H0 pos [] (kw :: kws) 0 ks f := by
  intro pins s σ H fv first Q F st ds st' I hk w e1 q
  refine PySem.W.callWith_KW0 (h₀ := X.base) I.ok.mod.kin hk hall (thn (h.go I w e1 pos) fun ws s1 ⟨zs, H1, I1, r1, l1, F', w', r, x⟩ => ⟨I1.kIn, ?_⟩) hpl
  rw [hks]
  exact q [] ws [] zs s1 F' H1 rfl (l1.trans hn.symm) I1 .nil r1 x w' r
theorem w_pk {e : Expr} {es : List Expr} {kw : Keyword} {kws : List Keyword} {n m : Nat} {ks : List Str} {f g : Sem1 (List D)} (h : PAn X P F0 H0 (e :: es) n f) (h2 : PKn X P F0 H0 (kw :: kws) m g) (hn : ks.length = m) (hall : (backToKw pos (keywordEach (kw :: kws) X.env)).all (·.1.isSome) = true := by rfl) (hks : (backToKw pos (keywordEach (kw :: kws) X.env)).filterMap (·.1) = ks := by rfl)
    (he : starEach (e :: es) X.env = (false, eval e X.env) :: starEach es X.env := by rfl)
    (hpl : ((backTo pos (starEach (e :: es) X.env)).any (·.1) || (backToKw pos (keywordEach (kw :: kws) X.env)).any (·.1.isNone)) = false := by rfl) : PC X P F0 H0 pos (e :: es) (kw :: kws) n ks (aApp f g) := by
  intro pins s σ H fv first Q F st ds st' I hk w e1 q
  unfold aApp at e1
  split at e1
  · rename_i ds1 s1 e2
    split at e1
    · rename_i ds2 s2 e3
      cases e1
      refine PySem.W.callWith_KW (h₀ := X.base) I.ok.mod.kin hk hall (thn (h.go I w e2 pos) fun us t1 ⟨vs, H1, I1, r1, l1, F1, w1, r, x⟩ => ?_) hpl he
      refine thn (h2.go I1 w1 e3 pos) fun ws t2 ⟨zs, H2, I2, r2, l2, F2, w2, rz, x2⟩ => ⟨I2.kIn, ?_⟩
      rw [hks]
      exact q us ws vs zs t2 F2 H2 l1 (l2.trans hn.symm) I2 r1 r2 (x.trans x2) w2 ((r.mono x2.ff).append rz)
    · cases e1
  · cases e1
/-- a call of c: is of what is written and the defaults dd -/
def eCall (c : Fn) (is : List Nat) (dd : List D) (f : Sem1 (List D)) : Sem1 D := fun s => match f s with
  | some (ds, s1) => match c (pick is (ds ++ dd)) s1.pot with
    | some (d, pt) => some (d, { s1 with pot := pt })
    | none => none
  | none => none
/-- constants -/
def Cst (K : PySem.W.Frag) (vs : List VV) (ds : List D) : Prop := ∀ P F, DRs K P F vs ds
variable {g : Bool} {k : Nat} {f C : Addr} {fd : FuncData} {ps : List Str} {c : Fn} {es : List Expr} {kws : List Keyword} {n m : Nat} {ks : List Str} {is : List Nat} {ds0 : List Value} {dv : List VV} {dd : List D} {x : Str} {p : Pos} {fa : Sem1 (List D)}
theorem args_ok {vs zs dv : List VV} {us ws ds0 : List Value} {n m : Nat} {ks : List Str} {is : List Nat} {dd : List D} {K : PySem.W.Frag} {P : Option Addr} {F : Hp} {ds : List D} (r1 : Vals vs us) (r2 : Vals zs ws) (rd : Vals dv ds0) (cd : Cst K dv dd) (r : DRs K P F (vs ++ zs) ds) :
    Vals (pick is (vs ++ (zs ++ dv))) (pick is (us ++ (ws ++ ds0))) ∧ DRs K P F (pick is (vs ++ (zs ++ dv))) (pick is (ds ++ dd)) := by
  refine ⟨vals_pick (r1.append (r2.append rd)) is, ?_⟩
  rw [← List.append_assoc]
  exact (r.append (cd P F)).pick is
theorem v_fn (F : FnG g X.prog X.w X.K X.mg X.base k f fd ps (spF X.K m c)) (hr : RmG g k X.A) (hm : X.mg x = some (.ref f)) (hk : PySem.W.keepIn X.K (.ref f) = true) (hb : BK X.K fd ps n ks is ds0) (hd : Vals dv ds0) (cd : Cst X.K dv dd)
    (ha : PC X P F0 H0 pos es kws n ks fa) (hi : ((is.all fun i => decide (i < n + (ks.length + dd.length))) && is.length == m) = true := by decide) (hg : Gl X x := by rfl) (hdb : (x == ("__debug__" : Str)) = false := by decide) :
    PE X (.Call (.Name x p) es kws pos) (tV X.K P F0 H0 (eCall c is dd fa)) := by
  refine ⟨fun pins s σ H Q I ⟨F1, st, d, st', w, e, q⟩ => ?_⟩
  unfold eCall at e
  split at e
  · rename_i ds s1 e1
    split at e
    · rename_i d1 pt e2
      cases e
      rw [Bool.and_eq_true, List.all_eq_true, beq_iff_eq] at hi
      refine wpAny_Call_Name_kw (ld_glob I hg hm ?_ hdb)
      refine ha pins s σ H (.ref f) [] (EP X pins σ Q) F1 st ds s1 I hk w e1 fun us ws vs zs s' F' H' h1 h2 I' r1 r2 x1 w1 r => ?_
      obtain ⟨a1, a2⟩ := args_ok (n := 0) (m := 0) (ks := ks) (is := is) r1 r2 hd cd r
      have hl : (pick is (vs ++ (zs ++ dv))).length = m := by
        rw [pick_len (is := is) fun i hi' => ?_]
        · exact hi.2
        · have := of_decide_eq_true (hi.1 i hi')
          rw [List.length_append, List.length_append, r1.length, r2.length, h1, h2, (cd P F').length]
          exact this
      refine F.go hr I' (hb.to s' us ws I'.kIn h1 h2) a1 ⟨hl, P, F', _, s1.pot, d, pt, w1.hr.refl, a2, e2, fun v F2 H2 h3 d3 => ?_⟩
      exact q v F2 H2 (x1.trans h3.ex) (w1.call h3) d3
    · cases e
  · cases e
/-- C(..) -/
theorem v_mk (M : Mk X.K C f) (F : FnG g X.prog X.w X.K X.mg X.base k f fd ps (spI X.K C m c)) (hr : RmG g (k + 1) X.A) (hm : X.mg x = some (.ref C)) (hb : BK X.K fd ps (n + 1) ks (0 :: is.map (· + 1)) ds0) (hd : Vals dv ds0) (cd : Cst X.K dv dd)
    (ha : PC X P F0 H0 pos es kws n ks fa) (hi : ((is.all fun i => decide (i < n + (ks.length + dd.length))) && is.length == m) = true := by decide) (hg : Gl X x := by rfl) (hdb : (x == ("__debug__" : Str)) = false := by decide) :
    PE X (.Call (.Name x p) es kws pos) (tV X.K P F0 H0 (eCall c is dd fa)) := by
  refine ⟨fun pins s σ H Q I ⟨F1, st, d, st', w, e, q⟩ => ?_⟩
  unfold eCall at e
  split at e
  · rename_i ds s1 e1
    split at e
    · rename_i d1 pt e2
      cases e
      rw [Bool.and_eq_true, List.all_eq_true, beq_iff_eq] at hi
      refine wpAny_Call_Name_kw (ld_glob I hg hm ?_ hdb)
      refine ha pins s σ H (.ref C) [] (EP X pins σ Q) F1 st ds s1 I M.kp w e1 fun us ws vs zs s' F' H' h1 h2 I' r1 r2 x1 w1 r => ?_
      obtain ⟨a1, a2⟩ := args_ok (n := 0) (m := 0) (ks := ks) (is := is) r1 r2 hd cd r
      have hl : (pick is (vs ++ (zs ++ dv))).length = m := by
        rw [pick_len (is := is) fun i hi' => ?_]
        · exact hi.2
        · have := of_decide_eq_true (hi.1 i hi')
          rw [List.length_append, List.length_append, r1.length, r2.length, h1, h2, (cd P F').length]
          exact this
      refine F.made M hr I' a1 (fun s2 u X2 => ?_) fun y dx ny ndx nyd => ⟨congrArg Nat.succ hl, P, F', _, _, s1.pot, d, pt, y, dx, H', rfl, rfl, ny, ndx, nyd, w1.hr.refl, a2, e2, fun F2 H2 h3 d3 => ⟨rfl, ?_⟩⟩
      · have := hb.to s2 (u :: us) ws X2 (congrArg Nat.succ h1) h2
        have e5 : pick (0 :: is.map (· + 1)) (u :: us ++ (ws ++ ds0)) = u :: pick is (us ++ (ws ++ ds0)) := by
          unfold pick
          rw [List.filterMap_cons]
          show u :: _ = _
          rw [List.filterMap_map]
          rfl
        rw [e5] at this
        exact this
      · exact q _ F2 H2 (x1.trans h3.ex) (w1.call h3) d3
    · cases e
  · cases e
/-- o.m(..) -/
def eM (m : Str) (C : Addr) (c : Fn) (is : List Nat) (dd : List D) (o : Sem1 D) (f : Sem1 (List D)) : Sem1 D := fun s => match o s with
  | some (.ins C' ns vs, s0) => if C' = C ∧ ns.contains m = false then match f s0 with
      | some (ds, s1) => match c (pick is (.ins C' ns vs :: (ds ++ dd))) s1.pot with
        | some (d, pt) => some (d, { s1 with pot := pt })
        | none => none
      | none => none
    else none
  | _ => none
theorem no_attr {m : Str} : ∀ {fs : List (Str × VV)}, (fs.map (·.1)).contains m = false → fs.lookup m = none
  | [], _ => rfl
  | (y, v) :: fs, h => by
    rw [List.map_cons, List.contains_cons, Bool.or_eq_false_iff] at h
    rw [List.lookup_cons, h.1]
    exact no_attr h.2
theorem v_meth {pl : Sem Bool} {o : Expr} {fo : Sem1 D} {apos : Pos} {mt : Str} (he : PE X o (tV X.K P F0 H0 fo)) (cl : Cls X.K C) (hm : Meth X.K C mt f) (F : FnG g X.prog X.w X.K X.mg X.base k f fd ps (spF X.K m c)) (hr : RmG g k X.A) (hb : BK X.K fd ps (n + 1) ks is ds0) (hd : Vals dv ds0) (cd : Cst X.K dv dd)
    (ha : PC X P F0 H0 pos es kws n ks fa) (hi : ((is.all fun i => decide (i < n + 1 + (ks.length + dd.length))) && is.length == m) = true := by decide)
    (ht : eval (.Call (.Attribute o mt apos) es kws pos) X.env = (do
      let ov ← eval o X.env
      standAt apos.atName
      let (f, first) ← holding [ov] (getMethod ov mt pl)
      callWith pos f first (backTo pos (starEach es X.env)) (backToKw pos (keywordEach kws X.env))) := by rfl) :
    PE X (.Call (.Attribute o mt apos) es kws pos) (tV X.K P F0 H0 (eM mt C c is dd fo fa)) := by
  refine ⟨fun pins s σ H Q I ⟨F1, st, d, st', w, e, q⟩ => ?_⟩
  unfold eM at e
  split at e
  · rename_i C' ns dvs s0 e0
    split at e
    · rename_i hc
      obtain ⟨rfl, hno⟩ := hc
      split at e
      · rename_i ds s1 e1
        split at e
        · rename_i d1 pt e2
          cases e
          rw [Bool.and_eq_true, List.all_eq_true, beq_iff_eq] at hi
          refine PySem.W.methodCall_KW (pl := pl) (thn (he.run pins s σ H (fun v H1 => ∃ F1', Ex P σ F1 H st F1' H1 s0 ∧ SR X.K P F0 H0 F1' σ H1 s0 ∧ DR X.K P F1' v (.ins C' ns dvs)) I ⟨F1, st, _, s0, w, e0, fun v F' H' x w' r => ⟨F', x, w', r⟩⟩) fun u t1 ⟨y, H1, I1, ry, F1', x0, w0, r0⟩ => ?_) ht
          cases r0 with
          | @ins a _ dx fs _ _ ha' en rd =>
            obtain rfl : u = Value.ref a := ry
            refine getmeth_ok I1 (w0.hr.sub _ _ ha') cl hm (no_attr (by rw [en]; exact hno)) ?_
            refine ha pins t1 σ H1 (.ref f) [.ref a] (EP X pins σ Q) F1' s0 ds s1 I1 hm.kp w0 e1 fun us ws vs zs s' F' H' h1 h2 I' r1 r2 x1 w1 r => ?_
            have r1' : Vals (V.ref a :: vs) (Value.ref a :: us) := .cons rfl r1
            have rr : DRs X.K P F' ((V.ref a :: vs) ++ zs) (.ins C' ns dvs :: ds) := .cons ((DR.ins ha' en rd).mono x1.ff) r
            obtain ⟨a1, a2⟩ := args_ok (n := 0) (m := 0) (ks := ks) (is := is) r1' r2 hd cd rr
            have hl : (pick is (V.ref a :: vs ++ (zs ++ dv))).length = m := by
              rw [pick_len (is := is) fun i hi' => ?_]
              · exact hi.2
              · have := of_decide_eq_true (hi.1 i hi')
                rw [List.length_append, List.length_append, List.length_cons, r1.length, r2.length, h1, h2, (cd P F').length]
                exact this
            refine F.go hr I' (hb.to s' (Value.ref a :: us) ws I'.kIn (congrArg Nat.succ h1) h2) a1 ⟨hl, P, F', _, s1.pot, d, pt, w1.hr.refl, a2, e2, fun v F2 H2 h3 d3 => ?_⟩
            exact q v F2 H2 ((x0.trans x1).trans h3.ex) (w1.call h3) d3
        · cases e
      · cases e
    · cases e
  · cases e
/-- e.f, a property -/
def eP (C : Addr) (c : Fn) (o : Sem1 D) : Sem1 D := fun s => match o s with
  | some (.ins C' ns vs, s0) => if C' = C then match c [.ins C' ns vs] s0.pot with
      | some (d, pt) => some (d, { s0 with pot := pt })
      | none => none
    else none
  | _ => none
theorem v_prop {e : Expr} {fo : Sem1 D} {pa : Addr} {mt : Str} (he : PE X e (tV X.K P F0 H0 fo)) (cl : Cls X.K C) (hp : PropOf X.K C mt pa f) (F : FnG g X.prog X.w X.K X.mg X.base k f fd ps (spF X.K 1 c)) (hr : RmG g (k + 1) X.A) (hb : BK X.K fd ps 1 [] [0] [])
    (hab : attributeBase e mt X.env (eval e X.env) = eval e X.env := by rfl) : PE X (.Attribute e mt pos) (tV X.K P F0 H0 (eP C c fo)) := by
  refine ⟨fun pins s σ H Q I ⟨F1, st, d, st', w, e1, q⟩ => ?_⟩
  unfold eP at e1
  split at e1
  · rename_i C' ns dvs s0 e0
    split at e1
    · rename_i hc
      subst hc
      split at e1
      · rename_i d1 pt e2
        cases e1
        refine attr_of hab (thn (he.run pins s σ H (fun v H1 => ∃ F1', Ex P σ F1 H st F1' H1 s0 ∧ SR X.K P F0 H0 F1' σ H1 s0 ∧ DR X.K P F1' v (.ins C' ns dvs)) I ⟨F1, st, _, s0, w, e0, fun v F' H' x w' r => ⟨F', x, w', r⟩⟩) fun u t1 ⟨y, H1, I1, ry, F1', x0, w0, r0⟩ => ?_)
        cases r0 with
        | @ins a _ dx fs _ _ ha' en rd =>
          obtain rfl : u = Value.ref a := ry
          have ea := w0.hr.sub _ _ ha'
          obtain ⟨mA, O, _, _, _, _⟩ := ins_get I1.hok ea
          obtain ⟨od, J, _⟩ := O.look
          obtain ⟨rest, hrec⟩ := hp.rec_
          have I2 := I1.tok (t1.toks + 1)
          have hc : (PySem.W.clsIn X.K C').isSome = true := by
            obtain ⟨cd, hc, _⟩ := PySem.W.any_some cl.hd
            rw [hc]
            rfl
          refine PySem.W.get_bind I1.kIn J (PySem.W.plainGet_of (cl.get mt)).1 (PySem.W.findObj_data hc hp.at_ hp.get hp.tak) (PySem.W.plainGet_of (cl.get mt)).2 (wpAny_call (PySem.W.prop_get (s := { t1 with toks := t1.toks + 1 }) I1.kIn hrec ?_))
          have go := F.run X.A.in1 X.stack { t1 with toks := t1.toks + 1 } H1 ⟨[.ref a], []⟩ [.ref a] [.ref a] (fun v H2 => Q v H2) hr.in1 I2.env0.in1 (hb.to _ [.ref a] [] I2.kIn rfl rfl) (show Vals [V.ref a] _ from .cons rfl .nil) ⟨rfl, P, F1', _, s0.pot, d, pt, w0.hr.refl, .cons (DR.ins ha' en rd) .nil, e2, fun v F2 H2 h3 d3 => q v F2 H2 (x0.trans h3.ex) (w0.call h3) d3⟩
          refine codeAny_mono go fun r s' hq => ?_
          cases r with
          | error er => exact False.elim hq
          | ok fl =>
            cases fl with
            | ret u =>
              obtain ⟨v, H', I3, rv, q3⟩ := I2.after hq
              show wpAny _ _ (handedOut u) _ _ _
              rw [PySem.W.handedOut_of (handed_of rv)]
              exact wpAny_pure ⟨v, H', I3, rv, q3⟩
            | next => exact False.elim hq
            | brk => exact False.elim hq
            | cont => exact False.elim hq
      · cases e1
    · cases e1
  · cases e1
/-- e.f, an attribute -/
def eFld (C : Addr) (i : Nat) (mt : Str) (o : Sem1 D) : Sem1 D := fun s => match o s with
  | some (.ins C' ns vs, s0) => if C' = C ∧ ns.findIdx (· == mt) = i then match vs[i]? with
      | some d => some (d, s0)
      | none => none
    else none
  | _ => none
theorem fld_at {K : PySem.W.Frag} {F : Hp} {mt : Str} {d : D} : ∀ {fs : List (Str × VV)} {vs : List D} {i : Nat}, DRs K P F (fs.map (·.2)) vs → (fs.map (·.1)).findIdx (· == mt) = i → vs[i]? = some d → ∃ v, fs.lookup mt = some v ∧ DR K P F v d
  | [], vs, i, r, _, e => by
    cases r
    cases e
  | (y, v) :: fs, vs, i, r, h, e => by
    cases r with
    | @cons _ d0 _ vs' h0 t =>
      rw [List.map_cons, List.findIdx_cons] at h
      rw [List.lookup_cons]
      cases hy : (y == mt) with
      | true =>
        rw [hy] at h
        have h : 0 = i := h
        subst h
        cases e
        have : (mt == y) = true := by rw [beq_iff_eq] at hy ⊢; exact hy.symm
        rw [this]
        exact ⟨v, rfl, h0⟩
      | false =>
        rw [hy] at h
        have h : (fs.map (·.1)).findIdx (· == mt) + 1 = i := h
        subst h
        have : (mt == y) = false := by
          cases q : (mt == y) with
          | false => rfl
          | true =>
            rw [beq_iff_eq] at q
            rw [q] at hy
            simp at hy
        rw [this]
        exact fld_at t rfl e
theorem v_fld {e : Expr} {fo : Sem1 D} {i : Nat} {mt : Str} (he : PE X e (tVB X.K P F0 H0 fo)) (cl : Cls X.K C) (hn : NoAttr X.K C mt) (hab : attributeBase e mt X.env (eval e X.env) = eval e X.env := by rfl) : PE X (.Attribute e mt pos) (tV X.K P F0 H0 (eFld C i mt fo)) := by
  refine PE.con (pe_fld he hab) fun σ H Q ⟨F1, st, d, st', w, e1, q⟩ => ?_
  unfold eFld at e1
  split at e1
  · rename_i C' ns dvs s0 e0
    split at e1
    · rename_i hc
      obtain ⟨rfl, hi⟩ := hc
      split at e1
      · rename_i d1 e2
        cases e1
        refine ⟨F1, st, _, _, w, e0, fun v F' H' x w' r => ?_⟩
        obtain ⟨a, dx, fs, rfl, ea, en, rd⟩ := r.ins w'.hr.sub
        obtain ⟨v, hv, dv⟩ := fld_at (mt := mt) rd (by rw [en]; exact hi) e2
        exact ⟨a, C', dx, fs, v, rfl, ea, cl, hn, hv, q v F' H' x w' dv⟩
      · cases e1
    · cases e1
  · cases e1
end
end VS
end
section
set_option Elab.async false
set_option linter.all false
set_option maxRecDepth 100000
set_option maxHeartbeats 4000000
namespace VS
open PySem PySem.Spec PyProof.Rows PySem.W Builtin
open MeetsSeq MeetsSeq2 MeetsSeq3 SeqRoads2
open AutoSeq1 (wpAny_loadPart')
/-! ### an own == behind != -/
section
variable {prog : Program} {w : World} {A : Around} {E : Value → Shared → Prop} {s : Shared} {K : Frag} {x C L f : Addr} {h₀ : Heap} {m : Str → Option Value} {ox : Obj} {od : Option Obj} {b tb : Value}
theorem one_bind (self : Value) : bindSpecial (.builtin "object.__ne__") self = pure (.builtin "object.__ne__", [self]) :=
  (PySem.Slot.of (T := "object") (name := "__ne__") (owner := "object") (n := "__ne__") (by rw [typeLookup_type, builtinLookup_eq_fast]; kernel_rfl) (by decide +kernel) (by decide +kernel) (by decide +kernel)
    (.inl (by decide +kernel)) (by rw [isSubtype_type]; kernel_rfl)).bind self
theorem one_plain : plainId "object.__ne__" = true := (PySem.Slot.of (T := "object") (name := "__ne__") (owner := "object") (n := "__ne__") (by rw [typeLookup_type, builtinLookup_eq_fast]; kernel_rfl) (by decide +kernel) (by decide +kernel) (by decide +kernel)
    (.inl (by decide +kernel)) (by rw [isSubtype_type]; kernel_rfl)).plain
def WW (Q : Option Value → Shared → Prop) (E : Value → Shared → Prop) : Result → Shared → Prop := fun r s' => match r with
  | .ok (.ret v) => ∃ k, v = .bool k ∧ Q (some (.bool k)) s'
  | .ok _ => False
  | .error e => E e s'
theorem ne_entry {Q : Fin → Shared → Prop} (X : K.In s.heap) (I : InstAt s.heap x ox C od) (hs : findIn K (.ref C) "__eq__" = some (some (.ref f))) (hf : isFn K (.ref f) = true) (hu : A.units < cLine)
    (h : wpAny (model prog w) A (call (.ref f) [.ref x, b]) (fun v s' => ∃ k, v = .bool k ∧ Q (.done (.ret (.bool (!k)))) s') E s) : wpAny (model prog w) A (Builtin.«object.__ne__» ⟨[.ref x, b], []⟩) Q E s := by
  unfold Builtin.«object.__ne__»
  repeat (first
    | with_reducible refine wpAny_cRoomFor hu ?_
    | (refine wpAny_bind (m := callSpecialIfBound? (.ref x) (Str.ofString "__eq__") [b]) (ifBound_K X I hs hf (wpAny_mono h (fun r s' hr => by
          obtain ⟨k, rfl, hq⟩ := hr
          repeat (first | exact hq | exact wpAny_pure hq | exact wpAny_truthy_bool hq | (refine wpAny_bind (m := truthy (.bool _)) (wpAny_truthy_bool ?_)) | wp_step)) fun _ _ e => e)))
    | wp_step)
theorem ne_try {Q : Option Value → Shared → Prop} (X : K.In s.heap) (I : InstAt s.heap x ox C od) (hn : findIn K (.ref C) "__ne__" = some (some (.builtin "object.__ne__"))) (hs : findIn K (.ref C) "__eq__" = some (some (.ref f))) (hf : isFn K (.ref f) = true)
    (ho : subIn K (.ref C) (.type "object") = some true) (hu : A.units + 1 < cLine) 
    (h : wpAny (model prog w) A.in1 (call (.ref f) [.ref x, b]) (fun v s' => ∃ k, v = .bool k ∧ Q (some (.bool (!k))) s') E s) : wpAny (model prog w) A (tryCompare (.ref x) "__ne__" b) Q E s := by
  unfold tryCompare
  refine wpAny_bind ?_
  simp only [callSpecialIfBound?, bindSpecialIfBound?]
  refine wpAny_holding (wpAny_bind (wpAny_bind (wpAny_bind (I.type.here ((looks_findIn X hn).here ?_)))))
  simp only [one_bind]
  have core : wpAny (model prog w) A (call (.builtin "object.__ne__") [.ref x, b]) (fun v s' => ∃ k, v = .bool k ∧ Q (some (.bool k)) s') E s := by
    refine wpAny_call (codeAny_call_builtin one_plain F.cmpEntry_ne ?_)
    simp only [checkBuiltinCall, F.cmpKind_ne, F.cmpSplit_ne]
    unfold isInstance
    refine wpAny_bind (wpAny_bind (I.type.here ((looks_subIn X ho).here ?_)))
    have ha := F.cmpArgs_ne (.ref x) b
    have go : wpAny (model prog w) A.in1 (Builtin.«object.__ne__» ⟨[.ref x, b], []⟩) (fun fin s' => match fin with
      | .done f => WW Q E (.ok f) s'
      | .again c' => c'.quiet = true ∧ codeAny (model prog w) A c' (WW Q E) s') (fun e s' => E e s') s :=
      ne_entry (A := A.in1) X I hs hf hu (wpAny_mono h (fun v s' ⟨k, e, q⟩ => ⟨k, e, ⟨!k, rfl, q⟩⟩) fun _ _ z => z)
    cases hsig : Manifest.signature? "object.__ne__" with
    | none => exact wpAny_pure go
    | some sig =>
      simp only [argsOk, hsig] at ha
      have h2 : Bind.checkArgs "object.__ne__" sig ⟨.ref x :: [b], []⟩ = pure () := ha
      show wpAny _ _ (Bind.checkArgs "object.__ne__" sig ⟨.ref x :: [b], []⟩) _ _ _
      rw [h2]
      exact wpAny_pure go
  have fin : wpAny (model prog w) A (call (.builtin "object.__ne__") ([.ref x] ++ [b]) >>= fun v => pure (some v)) (fun r s' => ∃ k, r = some (.bool k) ∧ Q (some (.bool k)) s') E s :=
    wpAny_bind (wpAny_mono core (fun v s' ⟨k, e, q⟩ => wpAny_pure ⟨k, by rw [e], q⟩) fun _ _ h' => h')
  refine wpAny_bind (wpAny_askSetting (wpAny_ite ?_))
  split
  · exact wpAny_bind (wpAny_pure (wpAny_pure (wpAny_mono fin (fun r s' ⟨k, e, q⟩ => by subst e; exact wpAny_pure q) fun _ _ z => z)))
  · exact wpAny_tryCatch (wpAny_bind (wpAny_pure (wpAny_pure (wpAny_mono fin (fun r s' ⟨k, e, q⟩ => by subst e; exact wpAny_pure q) fun _ _ z => z))))
theorem rc_ne {Q : Value → Shared → Prop} (hu : A.units + 1 < cLine) (X : K.In s.heap) (I : InstAt s.heap x ox C od) (hb : Looks (model prog w) s.heap (typeOf b) tb) (hnf : notFirst K C tb = true) (hn : findIn K (.ref C) "__ne__" = some (some (.builtin "object.__ne__"))) (hs : findIn K (.ref C) "__eq__" = some (some (.ref f))) (hf : isFn K (.ref f) = true)
    (ho : subIn K (.ref C) (.type "object") = some true) (h : wpAny (model prog w) A.in1 (call (.ref f) [.ref x, b]) (fun v s' => ∃ k, v = .bool k ∧ Q (.bool (!k)) s') E s) : wpAny (model prog w) A (richCompare .NotEq (.ref x) b) Q E s := by
  have one := ne_try (A := A) (Q := fun r s' => ∃ k, r = some (.bool k) ∧ Q (.bool k) s') X I hn hs hf ho hu (wpAny_mono h (fun v s' ⟨k, e, q⟩ => ⟨k, e, !k, rfl, q⟩) fun _ _ z => z)
  unfold richCompare
  simp only [oneThing_ref]
  refine wpAny_holding (wpAny_bind (wpAny_cRoomFor (Nat.lt_of_succ_lt hu) ?_))
  refine wpAny_bind (I.type.here (wpAny_bind (hb.here ?_)))
  split
  · rename_i q
    have e : subIn K tb (.ref C) = some false := by
      rcases Bool.or_eq_true_iff.mp hnf with e | e
      · rw [beq_iff_eq.mp e] at q; simp at q
      · exact beq_iff_eq.mp e
    refine wpAny_bind ((looks_subIn X e).here ?_)
    simp only [Bool.false_eq_true, if_false]
    refine wpAny_bind (wpAny_mono one (fun r s' z => ?_) fun _ _ e => e)
    obtain ⟨k, rfl, hq⟩ := z
    exact wpAny_pure hq
  · refine wpAny_bind (wpAny_pure ?_)
    simp only [Bool.false_eq_true, if_false]
    refine wpAny_bind (wpAny_mono one (fun r s' z => ?_) fun _ _ e => e)
    obtain ⟨k, rfl, hq⟩ := z
    exact wpAny_pure hq
end
/-! ### an int ahead of an own operator -/
section
variable {prog : Program} {w : World} {A : Around} {E : Value → Shared → Prop} {s : Shared} {K : Frag} {x C L f f0 d : Addr} {h₀ : Heap} {m : Str → Option Value} {ox : Obj} {od : Option Obj} {b tb : Value}
theorem int_add_ins (a : Int) (t : Tok) (l C d : Addr) : Meets (Builtin.«int.__add__» ⟨[.int a t, .ref l], []⟩) (fun _ R s => s.heap.get? l = some (instObj C d) ∧ R (.ok (.ret Value.notImplemented)) s) :=
  .of_wp fun prog w A R s h => by obtain ⟨hp, g, d, tk, os⟩ := s; obtain ⟨hl, h⟩ := h; unfold instObj at hl; wp_walk; exact ⟨_, rfl, h⟩
theorem int_sub_ins (a : Int) (t : Tok) (l C d : Addr) : Meets (Builtin.«int.__sub__» ⟨[.int a t, .ref l], []⟩) (fun _ R s => s.heap.get? l = some (instObj C d) ∧ R (.ok (.ret Value.notImplemented)) s) :=
  .of_wp fun prog w A R s h => by obtain ⟨hp, g, d, tk, os⟩ := s; obtain ⟨hl, h⟩ := h; unfold instObj at hl; wp_walk; exact ⟨_, rfl, h⟩
theorem int_mul_ins (a : Int) (t : Tok) (l C d : Addr) : Meets (Builtin.«int.__mul__» ⟨[.int a t, .ref l], []⟩) (fun _ R s => s.heap.get? l = some (instObj C d) ∧ R (.ok (.ret Value.notImplemented)) s) :=
  .of_wp fun prog w A R s h => by obtain ⟨hp, g, d, tk, os⟩ := s; obtain ⟨hl, h⟩ := h; unfold instObj at hl; wp_walk; exact ⟨_, rfl, h⟩
theorem rbin {op : Operator} {i : Int} {t : Tok} {idl : String} {Q : Value → Shared → Prop} (X : K.In s.heap) (I : InstAt s.heap x ox C od) (hc : selfFirst K C = true)
    (hs : findIn K (.ref C) (PySem.dunder op.info.2) = some (some (.ref f0))) (hr : findIn K (.ref C) (dunderR op.info.2) = some (some (.ref f))) (hf : isFn K (.ref f) = true) (hsub : subIn K (.ref C) (.type "int") = some false)
    (hT : fillsNumberSlot (.type "int") op.info.2 = pure true) (hl : PySem.Slot "int" (PySem.dunder op.info.2) idl) (hd : ∀ Q : Value → Shared → Prop, Q .notImplemented s → wpAny (model prog w) A (call (.builtin idl) [.int i t, .ref x]) Q E s)
    (h : wpAny (model prog w) A (call (.ref f) [.ref x, .int i t]) (PySem.W.CmpBack Q) E s) : wpAny (model prog w) A (binaryOp op (.int i t) (.ref x)) Q E s := by
  obtain ⟨cd, rest, hcd, hm⟩ := ksp_first hc
  rcases hi : op.info with ⟨sym, nm'⟩
  rw [hi] at hs hr hT hl
  dsimp only at hs hr hT hl
  have one := ksp_try X I hr hf h
  have dec := wpAny_tryMethod_declines (M := model prog w) (A := A) (E := E) (s := s) (self := .int i t) (other := .ref x) (Q := fun r s' => r = none ∧ s' = s) (T := "int") rfl hl (hd _ ⟨rfl, rfl, rfl⟩)
  have L3 : Looks (model prog w) s.heap (fillsNumberSlot (.ref C) nm') true := fills_K X hcd hm hs
  have L5 : Looks (model prog w) s.heap (isSubtype (.ref C) (.type "int")) false := looks_subIn X hsub
  have hne : (Value.type "int" == Value.ref C) = false := Bool.eq_false_iff.mpr fun q => by cases beq_iff_eq.mp q
  simp only [binaryOp, hi]
  refine wpAny_holding (wpAny_bind ?_)
  unfold binaryOp1
  show wpAny _ _ ((pure (Value.type "int")) >>= _) _ _ _
  refine wpAny_bind (wpAny_pure (wpAny_bind (I.type.here ?_)))
  refine wpAny_bind (wpAny_of_eq hT ?_)
  simp only [hne, Bool.false_eq_true, if_false]
  refine wpAny_bind (L3.here ?_)
  simp only [Bool.and_self, if_true]
  refine wpAny_bind (L5.here ?_)
  have L7 : Looks (model prog w) s.heap (numberSlotInPython (.type "int") nm') false := Looks.of_pure rfl
  simp only [Bool.false_eq_true, if_false, Bool.not_false, Bool.and_self, if_true]
  refine wpAny_bind (L7.here ?_)
  simp only [Bool.false_eq_true, if_false]
  refine wpAny_bind (wpAny_mono dec (fun r s' z => ?_) fun _ _ e => e)
  obtain ⟨rfl, rfl⟩ := z
  simp only [Bool.false_eq_true, if_false]
  refine wpAny_bind (wpAny_mono one (fun r s' z => ?_) fun _ _ e => e)
  obtain ⟨v, rfl, hq⟩ := z
  exact wpAny_bind (wpAny_rule (wpAny_pure (wpAny_pure hq)))
end
end VS
end
section
set_option Elab.async false
set_option linter.all false
set_option maxRecDepth 100000
set_option maxHeartbeats 4000000
namespace VS
open PySem PySem.SeqAt
open AutoSeq1 (wpAny_loadPart')
open MeetsSeq MeetsSeq2 MeetsSeq3 SeqRoads2
section
variable {prog : Program} {w : World} {A : Around} {R : Result → Shared → Prop}
/-- what holds at each turn: two lists of N items; the i-th two compare to e i -/
def TurnL (prog : Program) (w : World) (A : Around) (E : Value → Shared → Prop) (l b : Addr) (N : Nat) (e : Nat → Bool) (J : Nat → Shared → Prop) : Prop :=
  ∀ i s, J i s → ∃ (us vs : Array Value) (n m : Nat), s.heap.get? l = some { cls := .type "list", data := .seq us n } ∧ s.heap.get? b = some { cls := .type "list", data := .seq vs m } ∧ us.size = N ∧ vs.size = N ∧
    ∀ (h1 : i < us.size) (h2 : i < vs.size), wpAny (model prog w) A.in1 (eqBool us[i] vs[i]) (fun r s' => r = e i ∧ J (i + 1) s') E s
abbrev Fin2 (prog : Program) (w : World) (A : Around) (R : Result → Shared → Prop) : Fin → Shared → Prop := GQ.FinOf prog w A R
def outB (ne : Bool) (b : Bool) : Bool := if ne then !b else b
theorem loopL (ne : Bool) (l b : Addr) (N : Nat) (e : Nat → Bool) (J : Nat → Shared → Prop) (hl : TurnL prog w A (fun e s' => R (.error e) s') l b N e J) (k : Nat) :
    ∀ i : Nat, N - i = k → i ≤ N → (∀ j s, J j s → R (.ok (.ret (.bool (outB ne (((List.range N).drop i).all e))))) s) → ∀ s, J i s →
      wpAny (model prog w) A.in1 (Builtin.«list.__eq__.loop» ⟨[.ref l, .ref b, rawInt i, rawInt (if ne then 3 else 2)], []⟩) (Fin2 prog w A R) (fun e s' => R (.error e) s') s := by
  induction k with
  | zero =>
    intro i hk hi fin s h
    obtain ⟨us, vs, n, m, g1, g2, z1, z2, _⟩ := hl _ _ h
    have hR := fin _ _ h
    have ei : i = N := by omega
    rw [ei, show (List.range N).drop N = [] from by simp, List.all_nil] at hR
    obtain ⟨hp, g, d, tk, os⟩ := s
    have i1 : us[((i : Nat) : Int).toNat]? = none := by simp; omega
    have i2 : vs[((i : Nat) : Int).toNat]? = none := by simp; omega
    cases ne with
    | false =>
      simp only [Bool.false_eq_true, if_false]
      wp_walk using wpAny_loadPart' g1, wpAny_loadPart' g2
      rw [i1, i2]
      wp_walk using wpAny_loadPart' g1, wpAny_loadPart' g2
      show R (.ok (.ret (.bool (us.size == vs.size)))) _
      rw [z1, z2]
      simpa [outB] using hR
    | true =>
      simp only [if_true]
      wp_walk using wpAny_loadPart' g1, wpAny_loadPart' g2
      rw [i1, i2]
      wp_walk using wpAny_loadPart' g1, wpAny_loadPart' g2
      show R (.ok (.ret (.bool (us.size != vs.size)))) _
      rw [z1, z2]
      simpa [outB] using hR
  | succ k ih =>
    intro i hk hi fin s h
    obtain ⟨us, vs, n, m, g1, g2, z1, z2, turn⟩ := hl _ _ h
    have l1 : i < us.size := by omega
    have l2 : i < vs.size := by omega
    have t := turn l1 l2
    have hd : (List.range N).drop i = i :: (List.range N).drop (i + 1) := by
      have : i < (List.range N).length := by simp; omega
      rw [List.drop_eq_getElem_cons this]
      simp
    rw [hd] at fin
    simp only [List.all_cons] at fin
    obtain ⟨hp, g, d, tk, os⟩ := s
    have i1 : us[((i : Nat) : Int).toNat]? = some us[i] := by simp [l1]
    have i2 : vs[((i : Nat) : Int).toNat]? = some vs[i] := by simp [l2]
    have hc : ((i : Int) + 1) = ((i + 1 : Nat) : Int) := by omega
    cases ne with
    | false =>
      simp only [Bool.false_eq_true, if_false] at ih ⊢
      wp_walk using wpAny_loadPart' g1, wpAny_loadPart' g2
      rw [i1, i2]
      refine wpAny_bind (wpAny_mono t (fun r s2 h2 => ?_) fun _ _ x => x)
      obtain ⟨rfl, h2⟩ := h2
      cases he : e i with
      | true =>
        simp only [he, Bool.true_and] at fin
        have again := ih (i + 1) (by omega) (by omega) fin s2 h2
        obtain ⟨hp2, g2', d2, tk2, os2⟩ := s2
        wp_walk
        rw [hc]
        exact ⟨plainId_quiet plain_eq_loop _, codeAny_builtin entry_eq_loop (by rw [Around.under_plainId plain_eq_loop _]; exact again)⟩
      | false =>
        simp only [he, Bool.false_and] at fin
        have hR := fin _ _ h2
        obtain ⟨us', vs', n', m', g1', g2', z1', z2', _⟩ := hl _ _ h2
        obtain ⟨hp2, gg, d2, tk2, os2⟩ := s2
        have j1 : us'[((i : Nat) : Int).toNat]? = some (us'[i]'(by omega)) := by simp
        have j2 : vs'[((i : Nat) : Int).toNat]? = some (vs'[i]'(by omega)) := by simp
        wp_walk using wpAny_loadPart' g1', wpAny_loadPart' g2'
        rw [j1, j2]
        wp_walk
        simpa [outB] using hR
    | true =>
      simp only [if_true] at ih ⊢
      wp_walk using wpAny_loadPart' g1, wpAny_loadPart' g2
      rw [i1, i2]
      refine wpAny_bind (wpAny_mono t (fun r s2 h2 => ?_) fun _ _ x => x)
      obtain ⟨rfl, h2⟩ := h2
      cases he : e i with
      | true =>
        simp only [he, Bool.true_and] at fin
        have again := ih (i + 1) (by omega) (by omega) fin s2 h2
        obtain ⟨hp2, g2', d2, tk2, os2⟩ := s2
        wp_walk
        rw [hc]
        exact ⟨plainId_quiet plain_eq_loop _, codeAny_builtin entry_eq_loop (by rw [Around.under_plainId plain_eq_loop _]; exact again)⟩
      | false =>
        simp only [he, Bool.false_and] at fin
        have hR := fin _ _ h2
        obtain ⟨us', vs', n', m', g1', g2', z1', z2', _⟩ := hl _ _ h2
        obtain ⟨hp2, gg, d2, tk2, os2⟩ := s2
        have j1 : us'[((i : Nat) : Int).toNat]? = some (us'[i]'(by omega)) := by simp
        have j2 : vs'[((i : Nat) : Int).toNat]? = some (vs'[i]'(by omega)) := by simp
        wp_walk using wpAny_loadPart' g1', wpAny_loadPart' g2'
        rw [j1, j2]
        wp_walk
        simpa [outB] using hR
/-- the whole of list's == or != -/
theorem listB (ne : Bool) (l b : Addr) (N : Nat) (e : Nat → Bool) (J : Nat → Shared → Prop) (hl : TurnL prog w A (fun e s' => R (.error e) s') l b N e J) (fin : ∀ j s, J j s → R (.ok (.ret (.bool (outB ne ((List.range N).all e))))) s) {s : Shared} (h : J 0 s) :
    wpAny (model prog w) A.in1 ((if ne then Builtin.«list.__ne__» else Builtin.«list.__eq__») ⟨[.ref l, .ref b], []⟩) (Fin2 prog w A R) (fun e s' => R (.error e) s') s := by
  obtain ⟨us, vs, n, m, g1, g2, z1, z2, _⟩ := hl _ _ h
  have again := loopL (A := A) (R := R) ne l b N e J hl _ 0 rfl (Nat.zero_le _) (by simpa using fin) s h
  obtain ⟨hp, g, d, tk, os⟩ := s
  have f3 := AutoSeq1.sub_list_list
  have hne : ¬ (us.size != vs.size) = true := by simp [z1, z2]
  cases ne with
  | false =>
    simp only [Bool.false_eq_true, if_false] at again ⊢
    wp_walk using wpAny_loadPart' g1, wpAny_loadPart' g2
    exact ⟨plainId_quiet plain_eq_loop _, codeAny_builtin entry_eq_loop (by rw [Around.under_plainId plain_eq_loop _]; exact again)⟩
  | true =>
    simp only [if_true] at again ⊢
    wp_walk using wpAny_loadPart' g1, wpAny_loadPart' g2
    exact ⟨plainId_quiet plain_eq_loop _, codeAny_builtin entry_eq_loop (by rw [Around.under_plainId plain_eq_loop _]; exact again)⟩
/-- lists of unlike lengths -/
theorem listB0 (ne : Bool) (l b : Addr) {us vs : Array Value} {n m : Nat} (hz : us.size ≠ vs.size) {s : Shared} (g1 : s.heap.get? l = some { cls := .type "list", data := .seq us n }) (g2 : s.heap.get? b = some { cls := .type "list", data := .seq vs m })
    (fin : R (.ok (.ret (.bool ne))) s) : wpAny (model prog w) A.in1 ((if ne then Builtin.«list.__ne__» else Builtin.«list.__eq__») ⟨[.ref l, .ref b], []⟩) (Fin2 prog w A R) (fun e s' => R (.error e) s') s := by
  obtain ⟨hp, g, d, tk, os⟩ := s
  have f3 := AutoSeq1.sub_list_list
  have hne : (us.size != vs.size) = true := by simp [hz]
  cases ne with
  | false =>
    simp only [Bool.false_eq_true, if_false]
    wp_walk using wpAny_loadPart' g1, wpAny_loadPart' g2
    exact fin
  | true =>
    simp only [if_true]
    wp_walk using wpAny_loadPart' g1, wpAny_loadPart' g2
    exact fin
end
end VS
end
section
set_option Elab.async false
set_option linter.all false
set_option maxRecDepth 100000
set_option maxHeartbeats 4000000
namespace VS
open PySem PySem.Spec PyProof.Rows L2
/-! ### == of data, own == behind it -/
def deqs (e : D → D → Option Bool) : List D → List D → Option Bool
  | [], [] => some true
  | a :: as, b :: bs => match e a b, deqs e as bs with
    | some x, some y => some (x && y)
    | _, _ => none
  | _, _ => none
def deq (oe : D → D → Option Bool) : Nat → D → D → Option Bool
  | 0, _, _ => none
  | n + 1, a, b => match a, b with
    | .non, .non => some true
    | .bl x, .bl y => some (x == y)
    | .int x, .int y => some (x == y)
    | .str x, .str y => some (x == y)
    | .lst as, .lst bs => if as.length = bs.length then deqs (deq oe n) as bs else some false
    | .ins C ns ds, y => oe (.ins C ns ds) y
    | _, _ => none
structure SubG (X : Cx) (g : Bool) (n : Nat) (A : Around) : Prop where
  room : RmG g n A
  fr : A.frames = X.A.frames
theorem SubG.in1 {X : Cx} {g : Bool} {n : Nat} {A : Around} (s : SubG X g (n + 1) A) : SubG X g n A.in1 := ⟨s.room.in1, s.fr⟩
theorem SubG.mono {X : Cx} {g : Bool} {n m : Nat} {A : Around} (s : SubG X g n A) (h : m ≤ n) : SubG X g m A := ⟨s.room.mono h, s.fr⟩
def tyD : D → Option Value
  | .non => some (.type "NoneType")
  | .bl _ => some (.type "bool")
  | .int _ => some (.type "int")
  | .str _ => some (.type "str")
  | .lst _ => some (.type "list")
  | .tup _ => some (.type "tuple")
  | .ins C _ _ => some (.ref C)
  | .scr _ => some (.type "list")
  | .pot => none
/-- an own __eq__ answers as oe says -/
structure OE (X : Cx) (g : Bool) (n : Nat) (oe : D → D → Option Bool) : Prop where
  run : ∀ C ns ds y r, oe (.ins C ns ds) y = some r → (∃ tb, tyD y = some tb ∧ PySem.W.notFirst X.K C tb = true) ∧ ∃ f fd ps c, FnG g X.prog X.w X.K X.mg X.base n f fd ps (spF X.K 2 c) ∧ PySem.W.findIn X.K (.ref C) "__eq__" = some (some (.ref f)) ∧ PySem.W.isFn X.K (.ref f) = true ∧
    BK X.K fd ps 2 [] [0, 1] [] ∧ (∀ pt, c [.ins C ns ds, y] pt = some (.bl r, pt)) ∧ PySem.W.findIn X.K (.ref C) "__ne__" = some (some (.builtin "object.__ne__")) ∧ PySem.W.subIn X.K (.ref C) (.type "object") = some true
  refl : ∀ C ns ds r, oe (.ins C ns ds) (.ins C ns ds) = some r → r = true
theorem deqs_refl {e : D → D → Option Bool} (h : ∀ d r, e d d = some r → r = true) : ∀ (l : List D) (r : Bool), deqs e l l = some r → r = true
  | [], r, z => by cases z; rfl
  | a :: l, r, z => by
    unfold deqs at z
    split at z
    · rename_i x y hx hy
      cases z
      rw [h a x hx, deqs_refl h l y hy]
      rfl
    · cases z
theorem deq_refl {oe : D → D → Option Bool} (h : ∀ C ns ds r, oe (.ins C ns ds) (.ins C ns ds) = some r → r = true) : ∀ (n : Nat) (d : D) (r : Bool), deq oe n d d = some r → r = true
  | 0, d, r, z => by cases z
  | n + 1, d, r, z => by
    unfold deq at z
    cases d with
    | non => cases z; rfl
    | bl b => cases z; simp
    | int b => cases z; simp
    | str b => cases z; simp
    | lst l =>
      have z : (if l.length = l.length then deqs (deq oe n) l l else some false) = some r := z
      rw [if_pos rfl] at z
      exact deqs_refl (deq_refl h n) l r z
    | ins C ns ds => exact h C ns ds r z
    | pot => cases z
    | tup l => cases z
    | scr l => cases z
theorem deqs_len {e : D → D → Option Bool} : ∀ {as bs : List D} {r : Bool}, deqs e as bs = some r → as.length = bs.length
  | [], [], _, _ => rfl
  | a :: as, b :: bs, r, z => by
    unfold deqs at z
    split at z
    · rename_i x y hx hy
      exact congrArg Nat.succ (deqs_len hy)
    · cases z
  | [], b :: bs, r, z => by cases z
  | a :: as, [], r, z => by cases z
theorem deqs_get {e : D → D → Option Bool} : ∀ {as bs : List D} {r : Bool}, deqs e as bs = some r → ∀ {i : Nat} {a b : D}, as[i]? = some a → bs[i]? = some b → ∃ k, e a b = some k
  | a :: as, b :: bs, r, z, i, x, y, hx, hy => by
    unfold deqs at z
    split at z
    · rename_i p q hp hq
      cases i with
      | zero => simp at hx hy; subst hx hy; exact ⟨p, hp⟩
      | succ i => exact deqs_get hq (by simpa using hx) (by simpa using hy)
    · cases z
  | [], bs, r, z, i, x, y, hx, hy => by simp at hx
  | a :: as, [], r, z, i, x, y, hx, hy => by simp at hy
theorem all_succ (f : Nat → Bool) (n : Nat) : (List.range (n + 1)).all f = (f 0 && (List.range n).all fun i => f (i + 1)) := by
  rw [List.range_succ_eq_map, List.all_cons, List.all_map]
  rfl
theorem deqs_all {e : D → D → Option Bool} : ∀ {as bs : List D} {r : Bool}, deqs e as bs = some r → r = (List.range as.length).all fun i => match as[i]?, bs[i]? with
    | some a, some b => e a b == some true
    | _, _ => false
  | [], [], r, z => by cases z; rfl
  | a :: as, b :: bs, r, z => by
    unfold deqs at z
    split at z
    · rename_i p q hp hq
      cases z
      rw [List.length_cons, all_succ]
      have := deqs_all hq
      simp only [List.getElem?_cons_zero, List.getElem?_cons_succ, hp]
      rw [← this]
      cases p <;> rfl
    · cases z
  | [], b :: bs, r, z => by cases z
  | a :: as, [], r, z => by cases z
section
variable {K : PySem.W.Frag} {P : Option Addr} {F : Hp}
theorem vals_inj : ∀ {xs ys : List VV} {us : List Value}, Vals xs us → Vals ys us → xs = ys
  | _, _, _, .nil, .nil => rfl
  | _, _, _, .cons h t, .cons h' t' => by rw [RelV.inj h h', vals_inj t t']
theorem map_int_inj : ∀ {ns ms : List Int}, ns.map V.int = ms.map V.int → ns = ms
  | [], [], _ => rfl
  | n :: ns, m :: ms, h => by
    injection h with h1 h2
    injection h1 with h1
    rw [h1, map_int_inj h2]
  | [], m :: ms, h => by cases h
  | n :: ns, [], h => by cases h
theorem sqF_inj (hK : ∀ a o, K.lookup a = some o → F a = none) {a : Addr} {xs ys : List VV} (h : SqF K F a xs) (h' : SqF K F a ys) : xs = ys := by
  rcases h with ⟨o, h⟩ | ⟨o, its, n, h1, h2, h3, h4, h5, h6⟩
  · rcases h' with ⟨o', h'⟩ | ⟨o', its', n', g1, _⟩
    · rw [h] at h'
      cases h'
      rfl
    · rw [hK a _ g1] at h
      cases h
  · rcases h' with ⟨o', h'⟩ | ⟨o', its', n', g1, g2, g3, g4, g5, g6⟩
    · rw [hK a _ h1] at h'
      cases h'
    · rw [h1] at g1
      cases g1
      rw [h4] at g4
      cases g4
      exact vals_inj h6 g6
theorem sqT_inj (hK : ∀ a o, K.lookup a = some o → F a = none) {a : Addr} {xs ys : List VV} (h : SqT K F a xs) (h' : SqT K F a ys) : xs = ys := by
  rcases h with (h | ⟨o, h⟩) | ⟨o, its, n, h1, h2, h3, h5, h6⟩
  · rcases h' with (h' | ⟨o', h'⟩) | ⟨o', its', n', g1, _⟩
    · rw [h] at h'; cases h'; rfl
    · rw [h] at h'; cases h'
    · rw [hK a _ g1] at h; cases h
  · rcases h' with (h' | ⟨o', h'⟩) | ⟨o', its', n', g1, _⟩
    · rw [h] at h'; cases h'
    · rw [h] at h'; cases h'; rfl
    · rw [hK a _ g1] at h; cases h
  · rcases h' with (h' | ⟨o', h'⟩) | ⟨o', its', n', g1, g2, g3, g5, g6⟩
    · rw [hK a _ h1] at h'; cases h'
    · rw [hK a _ h1] at h'; cases h'
    · rw [h1] at g1
      cases g1
      rw [h3] at g3
      cases g3
      exact vals_inj h6 g6
/-- what stands at a, by the kind of datum -/
inductive At (K : PySem.W.Frag) (P : Option Addr) (F : Hp) (a : Addr) : Nat → Prop
  | pot (h : F a = none) (k : K.lookup a = none) : At K P F a 0
  | scrF {o : Obj} {xs : List VV} (h : F a = some (.frz o (.lst xs))) : At K P F a 1
  | scrK {o : Obj} (h : F a = none) (k : K.lookup a = some o) (c : o.cls = .type "list") : At K P F a 1
  | lst {xs : List VV} (h : F a = some (.lst xs)) : At K P F a 2
  | tupH {xs : List VV} (h : F a = some (.tup xs)) : At K P F a 3
  | tupF {o : Obj} {xs : List VV} (h : F a = some (.frz o (.tup xs))) : At K P F a 3
  | tupK {o : Obj} (h : F a = none) (k : K.lookup a = some o) (c : o.cls = .type "tuple") : At K P F a 3
  | ins {C dx : Addr} {fs : List (Str × VV)} (h : F a = some (.ins C dx fs)) : At K P F a 4
theorem At.one {a : Addr} {i j : Nat} (h : At K P F a i) (h' : At K P F a j) : i = j := by
  cases h <;> cases h' <;> first | rfl | (rename_i h1 h2; rw [h1] at h2; cases h2) | (exfalso; simp_all)
theorem DR.at (hK : ∀ a o, K.lookup a = some o → F a = none) (hP : ∀ p, P = some p → F p = none ∧ K.lookup p = none) {a : Addr} {d : D} (h : DR K P F (.ref a) d) : At K P F a (match d with
    | .pot => 0
    | .scr _ => 1
    | .lst _ => 2
    | .tup _ => 3
    | .ins .. => 4
    | _ => 5) := by
  cases h with
  | pot h => exact .pot (hP _ h).1 (hP _ h).2
  | scr h =>
    rcases h with ⟨o, h⟩ | ⟨o, its, n, h1, h2, _⟩
    · exact .scrF h
    · exact .scrK (hK _ _ h1) h1 h2
  | lst h r => exact .lst h
  | tup h r =>
    rcases h with (h | ⟨o, h⟩) | ⟨o, its, n, h1, h2, _⟩
    · exact .tupH h
    · exact .tupF h
    · exact .tupK (hK _ _ h1) h1 h2
  | ins h e r => exact .ins h
mutual
theorem DR.fn (hK : ∀ a o, K.lookup a = some o → F a = none) (hP : ∀ p, P = some p → F p = none ∧ K.lookup p = none) : ∀ {v : VV} {d d' : D}, DR K P F v d → DR K P F v d' → d = d'
  | _, _, _, .non, .non => rfl
  | _, _, _, .bl b, .bl _ => rfl
  | _, _, _, .int i, .int _ => rfl
  | _, _, _, .str z, .str _ => rfl
  | _, _, d', .pot h, q => by
    have := (DR.at hK hP (.pot h)).one (DR.at hK hP q)
    cases q <;> first | rfl | cases this
  | _, _, d', .scr h, q => by
    have := (DR.at hK hP (.scr h)).one (DR.at hK hP q)
    cases q with
    | scr h' => rw [map_int_inj (sqF_inj hK h h')]
    | _ => cases this
  | _, _, d', .lst h r, q => by
    have := (DR.at hK hP (.lst h r)).one (DR.at hK hP q)
    cases q with
    | lst h' r' =>
      rw [h] at h'
      cases h'
      rw [DRs.fn hK hP r r']
    | _ => cases this
  | _, _, d', .tup h r, q => by
    have := (DR.at hK hP (.tup h r)).one (DR.at hK hP q)
    cases q with
    | tup h' r' =>
      have e := sqT_inj hK h h'
      subst e
      rw [DRs.fn hK hP r r']
    | _ => cases this
  | _, _, d', .ins h e r, q => by
    have := (DR.at hK hP (.ins h e r)).one (DR.at hK hP q)
    cases q with
    | ins h' e' r' =>
      rw [h] at h'
      cases h'
      rw [DRs.fn hK hP r r', ← e, ← e']
    | _ => cases this
theorem DRs.fn (hK : ∀ a o, K.lookup a = some o → F a = none) (hP : ∀ p, P = some p → F p = none ∧ K.lookup p = none) : ∀ {vs : List VV} {ds ds' : List D}, DRs K P F vs ds → DRs K P F vs ds' → ds = ds'
  | _, _, _, .nil, .nil => rfl
  | _, _, _, .cons h t, .cons h' t' => by rw [DR.fn hK hP h h', DRs.fn hK hP t t']
end
end
section
variable {X : Cx} {P : Option Addr} {F H : Hp}
theorem k_free {pins : List (Addr × Obj)} {σ : St} {s : Shared} (I : Inv X pins σ H s) {a : Addr} {o : Obj} (h : X.K.lookup a = some o) : H a = none := (I.bs a o (I.ok.mod.kin a o h)).2
end
/-! ### the runs -/
/-- settled, or an owned list -/
def DL (K : PySem.W.Frag) (P : Option Addr) (F H : Hp) (v : VV) (d : D) : Prop := DR K P F v d ∨ ∃ a vs ds, v = .ref a ∧ d = .lst ds ∧ P ≠ some a ∧ H a = some (.lst vs) ∧ DRs K P F vs ds
def Back (X : Cx) (pins : List (Addr × Obj)) (σ : St) (P : Option Addr) (F H : Hp) (pt : Pt) (s' : Shared) : Prop := ∃ F' H', Inv X pins σ H' s' ∧ HR P F H F' H' pt
def RcJ (X : Cx) (P : Option Addr) (g : Bool) (n : Nat) (dq : D → D → Option Bool) : Prop := ∀ (ne : Bool) (A : Around) (pins : List (Addr × Obj)) (s : Shared) (σ : St) (F H : Hp) (pt : Pt) (x y : VV) (u v : Value) (a b : D) (r : Bool), SubG X g n A → Inv X pins σ H s → HR P F H F H pt → RelV x u → RelV y v → DL X.K P F H x a → DL X.K P F H y b → ((∀ l, a ≠ .lst l) → DR X.K P F y b) → dq a b = some r →
  wpAny (model X.prog X.w) A (richCompare (if ne then .NotEq else .Eq) u v) (fun w s' => w = .bool (outB ne r) ∧ Back X pins σ P F H pt s') X.xe s
def EqJ (X : Cx) (P : Option Addr) (g : Bool) (n : Nat) (dq : D → D → Option Bool) : Prop := ∀ (A : Around) (pins : List (Addr × Obj)) (s : Shared) (σ : St) (F H : Hp) (pt : Pt) (x y : VV) (u v : Value) (a b : D) (r : Bool), SubG X g n A → Inv X pins σ H s → HR P F H F H pt → RelV x u → RelV y v → DR X.K P F x a → DR X.K P F y b → dq a b = some r →
  wpAny (model X.prog X.w) A (eqBool u v) (fun w s' => w = r ∧ Back X pins σ P F H pt s') X.xe s
end VS
end
section
set_option Elab.async false
set_option linter.all false
set_option maxRecDepth 100000
set_option maxHeartbeats 4000000
namespace VS
open PySem PySem.Spec PyProof.Rows L2
section
variable {X : Cx} {g : Bool} {k : Nat} {f C : Addr} {fd : FuncData} {ps : List Str} {sp : SpN}
/-- the callee runs, somewhat deeper in this frame -/
theorem FnG.sub {pins : List (Addr × Obj)} {σ : St} {H : Hp} {s : Shared} {Q : VK} {E : Value → Shared → Prop} {us zs : List Value} {vs : List VV} {kw : List (Str × Value)} {A : Around} (F : FnG g X.prog X.w X.K X.mg X.base k f fd ps sp) (sb : SubG X g k A)
    (I : Inv X pins σ H s) (hb : BindsTo s fd ⟨us, kw⟩ (ps.zip zs)) (r : Vals vs zs) (h : sp vs H Q) : wpAny (model X.prog X.w) A (call (.ref f) us kw) (EP X pins σ Q) E s := by
  have e0 : Env0 X.prog X.w X.K X.mg X.base A X.stack s H := by
    have e := I.env0
    exact ⟨by rw [sb.fr]; exact e.frames, e.mod, e.bs, e.bsz, e.funs, e.frf, e.hok, e.bare⟩
  refine wpAny_call (codeAny_mono (F.run A X.stack s H ⟨us, kw⟩ zs vs Q sb.room e0 hb r h) fun r s' hq => ?_)
  have := back_of (R := EP X pins σ Q) (E := E) I hq fun u z => z
  cases r with
  | error e => exact this
  | ok fl =>
    cases fl with
    | ret u => exact this
    | next => exact False.elim this
    | brk => exact False.elim this
    | cont => exact False.elim this
end
section
variable {X : Cx} {P : Option Addr} {g : Bool} {n : Nat} {oe : D → D → Option Bool}
theorem HR.fK {F H : Hp} {pins : List (Addr × Obj)} {σ : St} {s : Shared} {pt : Pt} (h : HR P F H F H pt) (I : Inv X pins σ H s) : ∀ a o, X.K.lookup a = some o → F a = none := fun a o e => h.sub.free (k_free I e)
theorem HR.fP {F H : Hp} {pins : List (Addr × Obj)} {σ : St} {s : Shared} {pt : Pt} (h : HR P F H F H pt) (I : Inv X pins σ H s) : ∀ p, P = some p → F p = none ∧ X.K.lookup p = none := fun p e => by
  obtain ⟨x, y, q⟩ := h.pn p e
  obtain ⟨p', e1, e2, e3⟩ := h.pot x y q
  rw [e] at e1
  cases e1
  refine ⟨e2, ?_⟩
  cases z : X.K.lookup p with
  | none => rfl
  | some o => rw [k_free I z] at e3; cases e3
theorem DR.notP {F H : Hp} {pins : List (Addr × Obj)} {σ : St} {s : Shared} {pt : Pt} {a : Addr} {o : HO} (h : HR P F H F H pt) (I : Inv X pins σ H s) (e : F a = some o) : P ≠ some a := fun z => by
  rw [(h.fP I a z).1] at e
  cases e
theorem DL.lst' {F H : Hp} {pins : List (Addr × Obj)} {σ : St} {s : Shared} {pt : Pt} {x : VV} {ds : List D} (h : HR P F H F H pt) (I : Inv X pins σ H s) (d : DL X.K P F H x (.lst ds)) : ∃ a vs, x = .ref a ∧ P ≠ some a ∧ H a = some (.lst vs) ∧ DRs X.K P F vs ds := by
  rcases d with d | ⟨a, vs, ds', e1, e2, e3, e4, e5⟩
  · cases d with
    | lst e r => exact ⟨_, _, rfl, DR.notP h I e, h.sub _ _ e, r⟩
  · cases e2
    exact ⟨a, vs, e1, e3, e4, e5⟩
theorem rcJ_lst {m : Nat} (he : EqJ X P g n (deq oe m)) : RcJ X P g (n + 1) (fun a b => match a with
    | .lst _ => deq oe (m + 1) a b
    | _ => none) := by
  intro ne A pins s σ F H pt x y u v a b r sb I h rx ry da db ds e
  cases a with
  | lst as =>
    cases b with
    | lst bs =>
      have e : (if as.length = bs.length then deqs (deq oe m) as bs else some false) = some r := e
      obtain ⟨p, xs, rfl, np, hp, rp⟩ := da.lst' h I
      obtain ⟨q, ys, rfl, nq, hq, rq⟩ := db.lst' h I
      cases rx
      cases ry
      have here : ∀ s', Back X pins σ P F H pt s' → ∃ F1 H1, Inv X pins σ H1 s' ∧ HR P F H F1 H1 pt ∧ H1 p = some (.lst xs) ∧ H1 q = some (.lst ys) := fun s' ⟨F1, H1, I1, h1⟩ => ⟨F1, H1, I1, h1, (h1.g.hh p _ hp).resolve_left np, (h1.g.hh q _ hq).resolve_left nq⟩
      have read : ∀ {F1 H1 : Hp} {s' : Shared} {c : Addr} {zs : List VV}, Inv X pins σ H1 s' → H1 c = some (.lst zs) → ∃ (its : List Value) (k : Nat), Vals zs its ∧ s'.heap.get? c = some { cls := .type "list", data := .seq its.toArray k } := fun {F1 H1 s' c zs} I1 hc => by
        obtain ⟨z, its, k, r, e⟩ := I1.hok c _ hc
        exact ⟨its, k, r, e⟩
      by_cases hl : as.length = bs.length
      · rw [if_pos hl] at e
        have er := deqs_all e
        have slot := fun (T : Prop) (t : T) => t
        have turn : TurnL X.prog X.w A X.xe p q as.length (fun i => match as[i]?, bs[i]? with
            | some a, some b => deq oe m a b == some true
            | _, _ => false) (fun _ s' => Back X pins σ P F H pt s') := fun i s' b' => by
          obtain ⟨F1, H1, I1, h1, hp1, hq1⟩ := here s' b'
          obtain ⟨us, k1, r1, g1⟩ := read (F1 := F1) I1 hp1
          obtain ⟨ws, k2, r2, g2⟩ := read (F1 := F1) I1 hq1
          refine ⟨us.toArray, ws.toArray, k1, k2, g1, g2, by rw [List.size_toArray, ← r1.length, rp.length], by rw [List.size_toArray, ← r2.length, rq.length, hl], fun l1 l2 => ?_⟩
          have l1' : i < us.length := by simpa using l1
          have l2' : i < ws.length := by simpa using l2
          have m1 : i < xs.length := by rw [r1.length]; exact l1'
          have m2 : i < ys.length := by rw [r2.length]; exact l2'
          obtain ⟨a1, ea, d1⟩ := rp.getV (List.getElem?_eq_getElem m1)
          obtain ⟨b1, eb, d2⟩ := rq.getV (List.getElem?_eq_getElem m2)
          obtain ⟨u1, hu1, ru1⟩ := r1.get (List.getElem?_eq_getElem m1)
          obtain ⟨u2, hu2, ru2⟩ := r2.get (List.getElem?_eq_getElem m2)
          rw [List.getElem?_eq_getElem l1'] at hu1
          rw [List.getElem?_eq_getElem l2'] at hu2
          cases hu1
          cases hu2
          obtain ⟨k, hk⟩ := deqs_get e ea eb
          have go := he A.in1 pins s' σ F1 H1 pt _ _ _ _ a1 b1 k sb.in1 I1 h1.refl ru1 ru2 (d1.mono h1.g.ff) (d2.mono h1.g.ff) hk
          refine wpAny_mono go (fun w s2 ⟨ew, F2, H2, I2, h2⟩ => ⟨?_, F2, H2, I2, h1.trans h2⟩) fun _ _ z => z
          rw [ew]
          simp only [ea, eb, hk]
          cases k <;> rfl
        have b0 : Back X pins σ P F H pt s := ⟨F, H, I, h⟩
        obtain ⟨us, k1, r1, g1⟩ := read (F1 := F) I hp
        obtain ⟨ws, k2, r2, g2⟩ := read (F1 := F) I hq
        cases ne with
        | false =>
          refine wpAny_richCompare_same_room (op := .Eq) ⟨_, g1, rfl⟩ ⟨_, g2, rfl⟩ PySem.F.slot_list_eq (GQ.call_here PySem.F.slot_list_eq ⟨_, g1, rfl⟩ PySem.F.entry_list_eq (PySem.F.args_list_eq_2 _ _) ?_) sb.room.rm.units0
          exact listB (R := wants (fun v s' => v ≠ .notImplemented ∧ (v = .bool (outB false r) ∧ Back X pins σ P F H pt s')) X.xe) false p q as.length _ _ turn (fun j s' z => ⟨(fun x => nomatch x), congrArg (fun z => Value.bool (outB false z)) er.symm, z⟩) b0
        | true =>
          refine wpAny_richCompare_same_room (op := .NotEq) ⟨_, g1, rfl⟩ ⟨_, g2, rfl⟩ PySem.F.slot_list_ne (GQ.call_here PySem.F.slot_list_ne ⟨_, g1, rfl⟩ PySem.F.entry_list_ne (PySem.F.args_list_ne_2 _ _) ?_) sb.room.rm.units0
          exact listB (R := wants (fun v s' => v ≠ .notImplemented ∧ (v = .bool (outB true r) ∧ Back X pins σ P F H pt s')) X.xe) true p q as.length _ _ turn (fun j s' z => ⟨(fun x => nomatch x), congrArg (fun z => Value.bool (outB true z)) er.symm, z⟩) b0
      · rw [if_neg hl] at e
        cases e
        have b0 : Back X pins σ P F H pt s := ⟨F, H, I, h⟩
        obtain ⟨us, k1, r1, g1⟩ := read (F1 := F) I hp
        obtain ⟨ws, k2, r2, g2⟩ := read (F1 := F) I hq
        have hz : us.toArray.size ≠ ws.toArray.size := by rw [List.size_toArray, List.size_toArray, ← r1.length, ← r2.length, rp.length, rq.length]; exact hl
        cases ne with
        | false =>
          refine wpAny_richCompare_same_room (op := .Eq) ⟨_, g1, rfl⟩ ⟨_, g2, rfl⟩ PySem.F.slot_list_eq (GQ.call_here PySem.F.slot_list_eq ⟨_, g1, rfl⟩ PySem.F.entry_list_eq (PySem.F.args_list_eq_2 _ _) ?_) sb.room.rm.units0
          exact listB0 (R := wants (fun v s' => v ≠ .notImplemented ∧ (v = .bool (outB false false) ∧ Back X pins σ P F H pt s')) X.xe) false p q hz g1 g2 ⟨(fun x => nomatch x), rfl, b0⟩
        | true =>
          refine wpAny_richCompare_same_room (op := .NotEq) ⟨_, g1, rfl⟩ ⟨_, g2, rfl⟩ PySem.F.slot_list_ne (GQ.call_here PySem.F.slot_list_ne ⟨_, g1, rfl⟩ PySem.F.entry_list_ne (PySem.F.args_list_ne_2 _ _) ?_) sb.room.rm.units0
          exact listB0 (R := wants (fun v s' => v ≠ .notImplemented ∧ (v = .bool (outB true false) ∧ Back X pins σ P F H pt s')) X.xe) true p q hz g1 g2 ⟨(fun x => nomatch x), rfl, b0⟩
    | _ => cases e
  | _ => cases e
theorem looks_at {M : Model} {h : Heap} {a : Addr} {o : Obj} {c : Value} (e : h.get? a = some o) (hc : o.cls = c) : PySem.W.Looks M h (typeOf (.ref a)) c := hc ▸ (PySem.W.Looks.ld e).andThen .now
theorem looks_ty {pins : List (Addr × Obj)} {σ : St} {H F : Hp} {s : Shared} {pt : Pt} (I : Inv X pins σ H s) (h : HR P F H F H pt) {y : VV} {v : Value} {b : D} {tb : Value} (ry : RelV y v) (d : DR X.K P F y b) (e : tyD b = some tb) : PySem.W.Looks (model X.prog X.w) s.heap (typeOf v) tb := by
  cases d with
  | non => cases e; cases ry; exact .of_pure rfl
  | bl b => cases e; cases ry; exact .of_pure rfl
  | int b => cases e; obtain ⟨t, rfl⟩ := ry; exact .of_pure rfl
  | str b => cases e; obtain ⟨t, rfl⟩ := ry; exact .of_pure rfl
  | pot _ => cases e
  | scr hs =>
    cases e
    cases ry
    rcases hs with ⟨o, hs⟩ | ⟨o, its, n, h1, h2, _⟩
    · obtain ⟨e1, _, its, k, _, e2⟩ := I.hok _ _ (h.sub _ _ hs)
      exact looks_at e2 rfl
    · exact looks_at (I.kIn _ _ h1) h2
  | lst hl r =>
    cases e
    cases ry
    obtain ⟨z, its, k, _, e2⟩ := I.hok _ _ (h.sub _ _ hl)
    exact looks_at e2 rfl
  | tup ht r =>
    cases e
    cases ry
    obtain ⟨its, _, ⟨o, e2, e3, _⟩, _⟩ := I.tuple (same_sqT h.sub ht)
    exact looks_at e2 e3
  | ins hi en r =>
    cases e
    cases ry
    obtain ⟨mA, O, _⟩ := ins_get I.hok (h.sub _ _ hi)
    exact looks_at O.obj rfl
theorem eqB_other {P : Program} {w : World} {A : Around} {s : Shared} {E : Value → Shared → Prop} {p : Addr} {v : Value} {Q : Bool → Shared → Prop} (hne : (Value.ref p == v) = false) (h : wpAny (model P w) A (richCompare .Eq (.ref p) v) (fun v s' => ∃ r, v = .bool r ∧ Q r s') E s) : wpAny (model P w) A (eqBool (.ref p) v) Q E s := by
  unfold eqBool
  refine wpAny_holding (wpAny_ite_split (fun hab => absurd hab (by rw [hne]; simp)) fun _ => wpAny_bind (wpAny_mono h (fun v s' hv => ?_) fun _ _ x => x))
  obtain ⟨r, rfl, q⟩ := hv
  exact wpAny_truthy_bool q
theorem rcJ_ins (ho : OE X g n oe) : RcJ X P g (n + 1) (fun a b => match a with
    | .ins C ns ds => oe (.ins C ns ds) b
    | _ => none) := by
  intro ne A pins s σ F H pt x y u v a b r sb I h rx ry da db hd e
  cases a with
  | ins C ns ds =>
    have e : oe (.ins C ns ds) b = some r := e
    obtain ⟨⟨tb, et, nf⟩, f, fd, ps, c, Fc, hs, hf, hb, hc, hne, hobj⟩ := ho.run C ns ds b r e
    have da : DR X.K P F x (.ins C ns ds) := da.elim id fun ⟨a, vs, ds', _, q, _⟩ => nomatch q
    have db : DR X.K P F y b := hd fun l z => nomatch z
    have da' := da
    cases da' with
    | @ins p _ dx fs _ _ hp en rp =>
      cases rx
      obtain ⟨mA, O, _⟩ := ins_get I.hok (h.sub _ _ hp)
      obtain ⟨od, J, _⟩ := O.look
      obtain ⟨m, hF⟩ := I.fr
      have r2 : Vals [V.ref p, y] [Value.ref p, v] := .cons rfl (.cons ry .nil)
      have sp : spF X.K 2 c [.ref p, y] H (fun w H' => w = .bl r ∧ ∃ F', HR P F H F' H' pt) := ⟨rfl, P, F, _, pt, _, _, h, .cons da (.cons db .nil), hc pt, fun w F' H' h' d' => ⟨by cases d'; rfl, F', h'⟩⟩
      have bind : BindsTo s fd ⟨[.ref p, v], []⟩ (ps.zip [.ref p, v]) := hb.to s [.ref p, v] [] I.kIn rfl rfl
      have ly := looks_ty I h ry db et
      cases ne with
      | false =>
        refine PySem.W.cmp_K (op := .Eq) sb.room.rm.units0 hF I.ok.mod.kin J ly nf hs hf (wpAny_mono (Fc.sub (sb.mono (Nat.le_succ n)) I bind r2 sp) (fun w s' q => ?_) fun _ _ z => z)
        obtain ⟨z, H', I', rz, ez, F', h'⟩ := q
        subst ez
        cases rz
        exact ⟨rfl, F', H', I', h'⟩
      | true =>
        refine rc_ne (by have := sb.room.rm.units; omega) I.kIn J ly nf hne hs hf hobj (wpAny_mono (Fc.sub sb.in1 I bind r2 sp) (fun w s' q => ?_) fun _ _ z => z)
        obtain ⟨z, H', I', rz, ez, F', h'⟩ := q
        subst ez
        cases rz
        exact ⟨r, rfl, rfl, F', H', I', h'⟩
  | _ => cases e
theorem eqJ_of (ho : OE X g n oe) : ∀ k, EqJ X P g (n + k) (deq oe k)
  | 0 => fun A pins s σ F H pt x y u v a b r sb I h rx ry da db e => nomatch e
  | k + 1 => by
    intro A pins s σ F H pt x y u v a b r sb I h rx ry da db e
    have stay : Back X pins σ P F H pt s := ⟨F, H, I, h⟩
    have two : ∀ {p q : Addr}, u = .ref p → v = .ref q → x = .ref p → y = .ref q → wpAny (model X.prog X.w) A (richCompare .Eq u v) (fun w s' => w = .bool r ∧ Back X pins σ P F H pt s') X.xe s → wpAny (model X.prog X.w) A (eqBool u v) (fun w s' => w = r ∧ Back X pins σ P F H pt s') X.xe s := fun {p q} e1 e2 e3 e4 run => by
      subst e1 e2 e3 e4
      by_cases hpq : p = q
      · subst hpq
        have := DR.fn (h.fK I) (h.fP I) da db
        subst this
        exact SeqAt.EqAt.same _ X.prog X.w X.xe _ ⟨(deq_refl ho.refl (k + 1) a r e).symm, stay⟩
      · exact GQ.eqBool_refG hpq (wpAny_mono run (fun w s' ⟨e, b⟩ => ⟨r, e, rfl, b⟩) fun _ _ z => z)
    cases da with
    | non =>
      cases db with
      | non => cases e; cases rx; cases ry; exact SeqAt.EqAt.same _ X.prog X.w X.xe _ ⟨rfl, stay⟩
      | _ => cases e
    | bl i =>
      cases db with
      | bl j => cases e; cases rx; cases ry; exact SeqAt.EqAt.bool_bool _ _ X.prog X.w X.xe _ ⟨rfl, stay⟩
      | _ => cases e
    | int i =>
      cases db with
      | int j => cases e; obtain ⟨t, rfl⟩ := rx; obtain ⟨t', rfl⟩ := ry; exact SeqAt.EqAt.int_int _ _ _ _ X.prog X.w X.xe _ ⟨rfl, stay⟩
      | _ => cases e
    | str i =>
      cases db with
      | str j => cases e; obtain ⟨t, rfl⟩ := rx; obtain ⟨t', rfl⟩ := ry; exact SeqAt.EqAt.str_str _ _ _ _ X.prog X.w X.xe _ ⟨rfl, stay⟩
      | _ => cases e
    | pot _ => cases e
    | scr _ => cases e
    | tup _ _ => cases e
    | @lst p vs ds hp rp =>
      cases db with
      | @lst q ws es hq rq =>
        cases rx
        cases ry
        have := rcJ_lst (eqJ_of ho k) false A pins s σ F H pt _ _ _ _ _ _ r sb I h (show RelV (V.ref p) (Value.ref p) from rfl) (show RelV (V.ref q) (Value.ref q) from rfl) (.inl (.lst hp rp)) (.inl (.lst hq rq)) (fun _ => .lst hq rq) e
        exact two rfl rfl rfl rfl this
      | _ => cases e
    | @ins p C dx fs ns ds hp en rp =>
      cases rx
      have e' : oe (.ins C ns ds) b = some r := e
      have run := rcJ_ins (P := P) ho false A pins s σ F H pt _ _ _ _ _ _ r (sb.mono (by omega)) I h (show RelV (V.ref p) (Value.ref p) from rfl) ry (.inl (.ins hp en rp)) (.inl db) (fun _ => db) e'
      cases y with
      | ref q => cases ry; exact two rfl rfl rfl rfl run
      | int i => obtain ⟨t, rfl⟩ := ry; exact eqB_other rfl (wpAny_mono run (fun w s' ⟨e, b⟩ => ⟨r, e, rfl, b⟩) fun _ _ z => z)
      | str i => obtain ⟨t, rfl⟩ := ry; exact eqB_other rfl (wpAny_mono run (fun w s' ⟨e, b⟩ => ⟨r, e, rfl, b⟩) fun _ _ z => z)
      | bl i => cases ry; exact eqB_other rfl (wpAny_mono run (fun w s' ⟨e, b⟩ => ⟨r, e, rfl, b⟩) fun _ _ z => z)
      | non => cases ry; exact eqB_other rfl (wpAny_mono run (fun w s' ⟨e, b⟩ => ⟨r, e, rfl, b⟩) fun _ _ z => z)
      | byt i => cases db
      | flt i => cases db
      | ty i => cases db
end
end VS
end
section
set_option Elab.async false
set_option linter.all false
set_option maxRecDepth 100000
set_option maxHeartbeats 4000000
namespace VS
open PySem PySem.Spec PyProof.Rows L2
/-! ### two-place operations that may run a def -/
def OpP (K : PySem.W.Frag) (P : Option Addr) (r : R2) (g : G2) : Prop := ∀ (F H : Hp) (pt : Pt) (x y : VV) (d e c : D) (Q : VK), HR P F H F H pt → DR K P F x d → DR K P F y e → g d e = some c → (∀ v F' H', HR P F H F' H' pt → DR K P F' v c → Q v H') → r x y H Q
theorem HR.of_grow {P : Option Addr} {F H F' H' : Hp} {pt : Pt} (h : HR P F H F H pt) (g : Grow none F H F' H') : HR P F H F' H' pt := h.grow g
theorem OpV.p {K : PySem.W.Frag} {P : Option Addr} {r : R2} {g : G2} (h : OpV K P r g) : OpP K P r g := fun F H pt x y d e c Q hr dx dy eg q => h F H x y d e c Q hr.sub (.inl dx) (.inl dy) eg fun v F' H' gr dv => q v F' H' (hr.of_grow gr) dv
theorem OpP.or {K : PySem.W.Frag} {P : Option Addr} {r r' : R2} {g g' : G2} (h : OpP K P r g) (h' : OpP K P r' g') : OpP K P (fun x y H Q => r x y H Q ∨ r' x y H Q) (fun d e => match g d e with | some c => some c | none => g' d e) := by
  intro F H pt x y d e c Q fh hx hy hg q
  dsimp only at hg
  split at hg
  · rename_i c' ec
    cases hg
    exact .inl (h F H pt x y d e c Q fh hx hy ec q)
  · exact .inr (h' F H pt x y d e c Q fh hx hy hg q)
theorem OpR.or {X : Cx} {f : Value → Value → Sem Value} {r r' : R2} (h : OpR X f r) (h' : OpR X f r') : OpR X f (fun x y H Q => r x y H Q ∨ r' x y H Q) := fun pins s σ H x y v u Q I rx ry z => z.elim (h pins s σ H x y v u Q I rx ry) (h' pins s σ H x y v u Q I rx ry)
section
variable {X : Cx} {P : Option Addr} {F0 H0 : Hp} {pos : Pos}
theorem tOpP {r : R2} {g : G2} {f f' : Sem1 D} (hr : OpP X.K P r g) (σ : St) (H : Hp) (Q : VK) (h : tV X.K P F0 H0 (e2 g f f') σ H Q) : tOp r (tV X.K P F0 H0 f) (tV X.K P F0 H0 f') σ H Q := by
  obtain ⟨F, s, c, s', r0, e, q⟩ := h
  unfold e2 at e
  split at e
  · rename_i d s1 e1
    split at e
    · rename_i d' s2 e2
      split at e
      · rename_i c' e3
        cases e
        refine ⟨F, s, d, s1, r0, e1, fun v F1 H1 x1 r1 d1 => ⟨F1, s1, d', s', r1, e2, fun v2 F2 H2 x2 r2 d2 => ?_⟩⟩
        exact hr F2 H2 s'.pot v v2 d d' c Q r2.hr.refl (d1.mono x2.ff) d2 e3 fun v3 F3 H3 h3 d3 => q v3 F3 H3 ((x1.trans x2).trans h3.ex) (r2.call h3) d3
      · cases e
    · cases e
  · cases e
theorem v_binP {op : Operator} {a b : Expr} {r : R2} {g : G2} {f f' : Sem1 D} (ho : OpR X (binaryOp op) r) (hr : OpP X.K P r g) (ha : PE X a (tV X.K P F0 H0 f)) (hb : PE X b (tV X.K P F0 H0 f')) : PE X (.BinOp a op b pos) (tV X.K P F0 H0 (e2 g f f')) :=
  PE.con (pe_op ho ha hb) fun σ H Q h => tOpP hr σ H Q h
theorem v_cmpP {op : CmpOp} {a b : Expr} {r : R2} {g : G2} {f f' : Sem1 D} (ho : OpR X (compareOp op) r) (hr : OpP X.K P r g) (ha : PE X a (tV X.K P F0 H0 f)) (hb : PE X b (tV X.K P F0 H0 f')) (hm : behindInMarks op b = false := by first | exact nomark _ | rfl) : PE X (.Compare a [op] [b] pos) (tV X.K P F0 H0 (e2 g f f')) :=
  PE.con (pe_cmpR ho ha hb hm) fun σ H Q h => tOpP hr σ H Q h
theorem v_cmpPT {op : CmpOp} {a b : Expr} {r : R2} {g : G2} {f f' : Sem1 D} (ho : OpR X (compareOp op) r) (hr : OpP X.K P r g) (ha : PE X a (tV X.K P F0 H0 f)) (hb : PE X b (tV X.K P F0 H0 f')) (hm : behindInMarks op b = false := by first | exact nomark _ | rfl) : PT X (.Compare a [op] [b] pos) (tT X.K P F0 H0 (eT (e2 g f f'))) :=
  PT.con (pt_cmpR ho ha hb hm) fun σ H Q h => tT_of (fun σ H Q h => tOpP hr σ H Q h) σ H Q h
/-! ### == -/
variable {g : Bool} {n k : Nat} {oe : D → D → Option Bool}
def dqT (oe : D → D → Option Bool) (k : Nat) (a b : D) : Option Bool := match a with
  | .lst _ => deq oe k a b
  | .ins C ns ds => oe (.ins C ns ds) b
  | _ => none
theorem rcJ_all (ho : OE X g n oe) : RcJ X P g (n + k + 1) (dqT oe (k + 1)) := by
  intro ne A pins s σ F H pt x y u v a b r sb I h rx ry da db ds e
  cases a with
  | lst l => exact rcJ_lst (eqJ_of ho k) ne A pins s σ F H pt x y u v _ b r sb I h rx ry da db ds e
  | ins C ns vs => exact rcJ_ins (P := P) ho ne A pins s σ F H pt x y u v _ b r (sb.mono (by omega)) I h rx ry da db ds e
  | _ => cases e
/-- == or != of two settled data (lists, instances) -/
def rEqD (K : PySem.W.Frag) (P : Option Addr) (ne : Bool) (dq : D → D → Option Bool) : R2 := fun x y H Q => ∃ F pt a b r, HR P F H F H pt ∧ DL K P F H x a ∧ DL K P F H y b ∧ ((∀ l, a ≠ .lst l) → DR K P F y b) ∧ dq a b = some r ∧ ∀ F' H', HR P F H F' H' pt → Q (.bl (outB ne r)) H'
theorem op_eqD (ho : OE X g n oe) (hr : RmG g (n + k + 1) X.A) : OpR X (compareOp .Eq) (rEqD X.K P false (dqT oe (k + 1))) := by
  intro pins s σ H x y v u Q I rx ry ⟨F, pt, a, b, r, h, da, db, ds, e, q⟩
  show wpAny (model X.prog X.w) X.A (richCompare .Eq v u) (EP X pins σ Q) X.xe s
  refine wpAny_mono (rcJ_all (P := P) (k := k) ho false X.A pins s σ F H pt x y v u a b r ⟨hr, rfl⟩ I h rx ry da db ds e) (fun w s' ⟨ew, F', H', I', h'⟩ => ?_) fun _ _ z => z
  subst ew
  exact ⟨.bl (outB false r), H', I', rfl, q F' H' h'⟩
theorem op_neD (ho : OE X g n oe) (hr : RmG g (n + k + 1) X.A) : OpR X (compareOp .NotEq) (rEqD X.K P true (dqT oe (k + 1))) := by
  intro pins s σ H x y v u Q I rx ry ⟨F, pt, a, b, r, h, da, db, ds, e, q⟩
  show wpAny (model X.prog X.w) X.A (richCompare .NotEq v u) (EP X pins σ Q) X.xe s
  refine wpAny_mono (rcJ_all (P := P) (k := k) ho true X.A pins s σ F H pt x y v u a b r ⟨hr, rfl⟩ I h rx ry da db ds e) (fun w s' ⟨ew, F', H', I', h'⟩ => ?_) fun _ _ z => z
  subst ew
  exact ⟨.bl (outB true r), H', I', rfl, q F' H' h'⟩
def gEqD (ne : Bool) (dq : D → D → Option Bool) : G2 := fun a b => match dq a b with
  | some r => some (.bl (outB ne r))
  | none => none
theorem op_gEqD {ne : Bool} {dq : D → D → Option Bool} : OpP X.K P (rEqD X.K P ne dq) (gEqD ne dq) := by
  intro F H pt x y d e c Q h dx dy eg q
  unfold gEqD at eg
  split at eg
  · rename_i r er
    cases eg
    exact ⟨F, pt, d, e, r, h, .inl dx, .inl dy, fun _ => dy, er, fun F' H' h' => q _ F' H' h' (.bl _)⟩
  · cases eg
/-- .. of two lists, owned ones too -/
def gEqL (ne : Bool) (dq : D → D → Option Bool) : G2 := fun a b => match a, b with
  | .lst _, .lst _ => match dq a b with
    | some r => some (.bl (outB ne r))
    | none => none
  | _, _ => none
theorem tEqL {ne : Bool} {dq : D → D → Option Bool} {f f' : Sem1 D} (σ : St) (H : Hp) (Q : VK) (h : tV X.K P F0 H0 (e2 (gEqL ne dq) f f') σ H Q) : tOp (rEqD X.K P ne dq) (tVB X.K P F0 H0 f) (tVB X.K P F0 H0 f') σ H Q := by
  obtain ⟨F, s, c, s', r0, e, q⟩ := h
  unfold e2 at e
  split at e
  · rename_i d s1 e1
    split at e
    · rename_i d' s2 e2
      split at e
      · rename_i c' e3
        cases e
        unfold gEqL at e3
        split at e3
        · rename_i l l'
          split at e3
          · rename_i r er
            cases e3
            refine ⟨F, s, _, s1, r0, e1, fun v F1 H1 x1 r1 d1 => ⟨F1, s1, _, s', r1, e2, fun v2 F2 H2 x2 r2 d2 => ?_⟩⟩
            have toL : ∀ {v : VV} {l : List D}, DB X.K P F2 H2 v (.lst l) → DL X.K P F2 H2 v (.lst l) := fun {v l} z => z.elim .inl fun ⟨a, ev, pa, vs, ha, rd⟩ => .inr ⟨a, vs, l, ev, rfl, pa, ha, rd⟩
            exact ⟨F2, s'.pot, _, _, r, r2.hr.refl, toL (d1.mono x2), toL d2, fun z => absurd rfl (z l), er, fun F' H' h' => q _ F' H' ((x1.trans x2).trans h'.ex) (r2.call h') (.bl _)⟩
          · cases e3
        · cases e3
      · cases e
    · cases e
  · cases e
theorem v_eqL (ho : OE X g n oe) (hr : RmG g (n + k + 1) X.A) {a b : Expr} {f f' : Sem1 D} (ha : PE X a (tVB X.K P F0 H0 f)) (hb : PE X b (tVB X.K P F0 H0 f')) : PE X (.Compare a [.Eq] [b] pos) (tV X.K P F0 H0 (e2 (gEqL false (dqT oe (k + 1))) f f')) :=
  PE.con (pe_cmpR (op_eqD (P := P) (k := k) ho hr) ha hb (nomark _)) fun σ H Q h => tEqL σ H Q h
theorem v_neL (ho : OE X g n oe) (hr : RmG g (n + k + 1) X.A) {a b : Expr} {f f' : Sem1 D} (ha : PE X a (tVB X.K P F0 H0 f)) (hb : PE X b (tVB X.K P F0 H0 f')) : PE X (.Compare a [.NotEq] [b] pos) (tV X.K P F0 H0 (e2 (gEqL true (dqT oe (k + 1))) f f')) :=
  PE.con (pe_cmpR (op_neD (P := P) (k := k) ho hr) ha hb (nomark _)) fun σ H Q h => tEqL σ H Q h
/-- no own == at all -/
def noOE : D → D → Option Bool := fun _ _ => none
theorem oe_no : OE X g n noOE := ⟨(fun _ _ _ _ _ e => nomatch e), (fun _ _ _ _ e => nomatch e)⟩
/-! ### own operators -/
structure OpC (K : PySem.W.Frag) (C : Addr) (op : Operator) (f fr : Addr) : Prop where
  hc : PySem.W.selfFirst K C = true
  hs : PySem.W.findIn K (.ref C) (PySem.dunder op.info.2) = some (some (.ref f))
  hf : PySem.W.isFn K (.ref f) = true
  hr : PySem.W.findIn K (.ref C) (dunderR op.info.2) = some (some (.ref fr))
  hg : PySem.W.isFn K (.ref fr) = true
  h1 : ∃ fo, PySem.W.findIn K (.type "int") (PySem.dunder op.info.2) = some fo
  h2 : ∃ ro, PySem.W.findIn K (.type "int") (dunderR op.info.2) = some ro
  s1 : PySem.W.subIn K (.type "int") (.ref C) = some false
  s2 : PySem.W.subIn K (.ref C) (.type "int") = some false
/-- what an int's own part does: it declines an instance -/
structure IntOp (op : Operator) (idl : String) : Prop where
  fills : fillsNumberSlot (.type "int") op.info.2 = pure true
  slot : PySem.Slot "int" (PySem.dunder op.info.2) idl
  dec : ∀ (prog : Program) (w : World) (A : Around) (E : Value → Shared → Prop) (s : Shared) (i : Int) (t : Tok) (x C d : Addr) (Q : Value → Shared → Prop), s.heap.get? x = some (PySem.W.instObj C d) → Q .notImplemented s → wpAny (model prog w) A (call (.builtin idl) [.int i t, .ref x]) Q E s
theorem int_add : IntOp .Add "int.__add__" := ⟨PySem.F.fills_int_add, PySem.F.slot_int_add, fun prog w A E s i t x C d Q h q => call_meets PySem.F.slot_int_add rfl PySem.F.entry_int_add (PySem.F.args_int_add_2 _ _) (int_add_ins i t x C d) ⟨h, q⟩⟩
theorem int_sub : IntOp .Sub "int.__sub__" := ⟨PySem.F.fills_int_sub, PySem.F.slot_int_sub, fun prog w A E s i t x C d Q h q => call_meets PySem.F.slot_int_sub rfl PySem.F.entry_int_sub (PySem.F.args_int_sub_2 _ _) (int_sub_ins i t x C d) ⟨h, q⟩⟩
theorem int_mul : IntOp .Mult "int.__mul__" := ⟨PySem.F.fills_int_mul, PySem.F.slot_int_mul, fun prog w A E s i t x C d Q h q => call_meets PySem.F.slot_int_mul rfl PySem.F.entry_int_mul (PySem.F.args_int_mul_2 _ _) (int_mul_ins i t x C d) ⟨h, q⟩⟩
/-- the data of an own operator: cf the def, cr the reflected one -/
def gOwn2 (C : Addr) (cf cr : List D → Option D) : G2 := fun d e => match d, e with
  | .ins C1 n1 d1, .ins C2 n2 d2 => if C1 = C ∧ C2 = C then cf [.ins C1 n1 d1, .ins C2 n2 d2] else none
  | .ins C1 n1 d1, .int i => if C1 = C then cf [.ins C1 n1 d1, .int i] else none
  | .int i, .ins C2 n2 d2 => if C2 = C then cr [.ins C2 n2 d2, .int i] else none
  | _, _ => none
/-- a def that lets the pot be -/
def Pure (c : Fn) (cf : List D → Option D) : Prop := ∀ ds pt d, cf ds = some d → c ds pt = some (d, pt)
def rOwn2 (K : PySem.W.Frag) (P : Option Addr) (C : Addr) (cf cr : List D → Option D) : R2 := fun x y H Q => ∃ F pt d e c, HR P F H F H pt ∧ DR K P F x d ∧ DR K P F y e ∧ gOwn2 C cf cr d e = some c ∧ ∀ v F' H', HR P F H F' H' pt → DR K P F' v c → Q v H'
theorem cmpBack {pins : List (Addr × Obj)} {σ : St} {Q : VK} {v : Value} {s' : Shared} (h : EP X pins σ Q v s') : PySem.W.CmpBack (EP X pins σ Q) v s' := by
  obtain ⟨z, H', I, r, q⟩ := h
  have h : EP X pins σ Q v s' := ⟨z, H', I, r, q⟩
  cases v with
  | notImplemented =>
    cases z with
    | int i => obtain ⟨t, e⟩ := r; cases e
    | str i => obtain ⟨t, e⟩ := r; cases e
    | byt i => obtain ⟨t, e⟩ := r; cases e
    | flt i => obtain ⟨t, e⟩ := r; cases e
    | _ => cases r
  | _ => exact h
theorem op_own {op : Operator} {idl : String} {C f fr : Addr} {fd fdr : FuncData} {ps psr : List Str} {c c' : Fn} {cf cr : List D → Option D} (oc : OpC X.K C op f fr) (io : IntOp op idl) (F : FnG g X.prog X.w X.K X.mg X.base k f fd ps (spF X.K 2 c)) (G : FnG g X.prog X.w X.K X.mg X.base k fr fdr psr (spF X.K 2 c'))
    (hr : RmG g k X.A) (bf : BK X.K fd ps 2 [] [0, 1] []) (br : BK X.K fdr psr 2 [] [0, 1] []) (pf : Pure c cf) (pr : Pure c' cr) : OpR X (binaryOp op) (rOwn2 X.K P C cf cr) := by
  intro pins s σ H x y v u Q I rx ry ⟨F1, pt, d, e, cc, h, dx, dy, eg, q⟩
  obtain ⟨m, hF⟩ := I.fr
  have fwd : ∀ {p : Addr} {n1 : List Str} {d1 : List D}, v = .ref p → x = .ref p → d = .ins C n1 d1 → cf [d, e] = some cc → wpAny (model X.prog X.w) X.A (call (.ref f) [.ref p, u]) (PySem.W.CmpBack (EP X pins σ Q)) X.xe s := fun {p n1 d1} e1 e2 e3 e4 => by
    subst e1 e2
    refine wpAny_mono (F.go hr I (hb := bf.to s [.ref p, u] [] I.kIn rfl rfl) (show Vals [V.ref p, y] [Value.ref p, u] from .cons rfl (.cons ry .nil)) ⟨rfl, P, F1, [d, e], pt, cc, pt, h, .cons dx (.cons dy .nil), pf _ pt _ e4, fun w F' H' h' d' => q w F' H' h' d'⟩) (fun w s' z => cmpBack z) fun _ _ z => z
  unfold gOwn2 at eg
  split at eg
  · rename_i C1 n1 d1 C2 n2 d2
    split at eg
    · rename_i hc
      obtain ⟨rfl, rfl⟩ := hc
      cases dx with
      | @ins p _ dxa fs _ _ hp en rp =>
        cases dy with
        | @ins p2 _ dxb fs2 _ _ hp2 en2 rp2 =>
          cases rx
          cases ry
          obtain ⟨mA, O, _⟩ := ins_get I.hok (h.sub _ _ hp)
          obtain ⟨od, J, _⟩ := O.look
          obtain ⟨mB, O2, _⟩ := ins_get I.hok (h.sub _ _ hp2)
          exact PySem.W.binop_K hF I.ok.mod.kin J (looks_at O2.obj rfl) oc.hc oc.hs oc.hf (fwd rfl rfl rfl eg)
    · cases eg
  · rename_i C1 n1 d1 i
    split at eg
    · rename_i hc
      subst hc
      cases dx with
      | @ins p _ dxa fs _ _ hp en rp =>
        cases dy
        cases rx
        obtain ⟨t, rfl⟩ := ry
        obtain ⟨mA, O, _⟩ := ins_get I.hok (h.sub _ _ hp)
        obtain ⟨od, J, _⟩ := O.look
        obtain ⟨fo, h1⟩ := oc.h1
        obtain ⟨ro, h2⟩ := oc.h2
        exact PySem.W.ksp_binT (T := "int") hF I.ok.mod.kin J rfl oc.hc oc.hs oc.hf oc.hr (.inr ⟨fr, rfl⟩) h1 h2 oc.s1 (fwd rfl rfl rfl eg)
    · cases eg
  · rename_i i C2 n2 d2
    split at eg
    · rename_i hc
      subst hc
      cases dy with
      | @ins p _ dxa fs _ _ hp en rp =>
        cases dx
        cases ry
        obtain ⟨t, rfl⟩ := rx
        obtain ⟨mA, O, _⟩ := ins_get I.hok (h.sub _ _ hp)
        obtain ⟨od, J, _⟩ := O.look
        refine rbin I.kIn J oc.hc oc.hs oc.hr oc.hg oc.s2 io.fills io.slot (fun Q z => io.dec X.prog X.w X.A X.xe s i t p _ _ Q O.obj z) ?_
        refine wpAny_mono (G.go hr I (hb := br.to s [.ref p, .int i t] [] I.kIn rfl rfl) (show Vals [V.ref p, V.int i] [Value.ref p, Value.int i t] from .cons rfl (.cons ⟨t, rfl⟩ .nil)) ⟨rfl, P, F1, _, pt, cc, pt, h, .cons (.ins hp en rp) (.cons (.int i) .nil), pr _ pt _ eg, fun w F' H' h' d' => q w F' H' h' d'⟩) (fun w s' z => cmpBack z) fun _ _ z => z
    · cases eg
  · cases eg
theorem op_gOwn {C : Addr} {cf cr : List D → Option D} : OpP X.K P (rOwn2 X.K P C cf cr) (gOwn2 C cf cr) := fun F H pt x y d e c Q h dx dy eg q => ⟨F, pt, d, e, c, h, dx, dy, eg, q⟩
/-- -e, e an instance -/
def gOwn1 (C : Addr) (cf : List D → Option D) : D → Option D
  | .ins C1 n1 d1 => if C1 = C then cf [.ins C1 n1 d1] else none
  | _ => none
theorem v_negO {C f : Addr} {fd : FuncData} {ps : List Str} {c : Fn} {cf : List D → Option D} {a : Expr} {fa : Sem1 D} (hs : PySem.W.findIn X.K (.ref C) "__neg__" = some (some (.ref f))) (hf : PySem.W.isFn X.K (.ref f) = true) (F : FnG g X.prog X.w X.K X.mg X.base k f fd ps (spF X.K 1 c)) (hr : RmG g k X.A) (bf : BK X.K fd ps 1 [] [0] []) (pf : Pure c cf)
    (ha : PE X a (tV X.K P F0 H0 fa)) : PE X (.UnaryOp .USub a pos) (tV X.K P F0 H0 (e1 (gOwn1 C cf) fa)) := by
  have un : UnR X (unaryOp .USub) (fun x H Q => ∃ F pt d c, HR P F H F H pt ∧ DR X.K P F x d ∧ gOwn1 C cf d = some c ∧ ∀ v F' H', HR P F H F' H' pt → DR X.K P F' v c → Q v H') := by
    intro pins s σ H x v Q I rx ⟨F1, pt, d, cc, h, dx, eg, q⟩
    unfold gOwn1 at eg
    split at eg
    · split at eg
      · rename_i hc
        subst hc
        cases dx with
        | @ins p _ dxa fs _ _ hp en rp =>
          cases rx
          obtain ⟨m, hF⟩ := I.fr
          obtain ⟨mA, O, _⟩ := ins_get I.hok (h.sub _ _ hp)
          obtain ⟨od, J, _⟩ := O.look
          refine PySem.W.ksp_neg hF I.ok.mod.kin J hs hf ?_
          exact F.go hr I (hb := bf.to s [.ref p] [] I.kIn rfl rfl) (show Vals [V.ref p] [Value.ref p] from .cons rfl .nil) ⟨rfl, P, F1, _, pt, cc, pt, h, .cons (.ins hp en rp) .nil, pf _ pt _ eg, fun w F' H' h' d' => q w F' H' h' d'⟩
      · cases eg
    · cases eg
  refine PE.con (pe_un un ha) fun σ H Q ⟨F1, s, d, s', w, e, q⟩ => ?_
  unfold e1 at e
  split at e
  · rename_i d1 s1 e1
    split at e
    · rename_i c1 ec
      cases e
      exact ⟨F1, s, d1, _, w, e1, fun v F' H' x' w' dv => ⟨F', s'.pot, d1, _, w'.hr.refl, dv, ec, fun v2 F2 H2 h2 d2 => q v2 F2 H2 (x'.trans h2.ex) (w'.call h2) d2⟩⟩
    · cases e
  · cases e
end
end VS
end
section
set_option Elab.async false
set_option linter.all false
set_option maxRecDepth 100000
set_option maxHeartbeats 4000000
namespace VS
open PySem PySem.Spec PyProof.Rows L2
section
variable {X : Cx} {P : Option Addr} {F0 H0 : Hp} {pos : Pos}
/-! ### comprehensions as fresh lists -/
theorem n_comp {elt tg iter : Expr} {ifs : List Expr} {scope : Scope} {own : List (Str × Nat)} {wi : Sem1 (List D)} {t : Tg} {c : Sem1 Bool} {f : Sem1 D} (hc : X.calm = true) (hN : X.N.Nodup) (hi : PI X tg iter (tI X.K P F0 H0 wi)) (ok : BlkOk X.N X.env.scope scope own) (nd : (own.map (·.2)).Nodup)
    (hg : ∀ (s : Shared) (H : Hp) (C : Addr) (cl : List (Str × Addr)) (fp : List Addr), PG (X.blk s H scope (compEnvC scope cl C X.env) fp) tg (tGv X.K P F0 H0 (own.map (·.2)) t))
    (ht : ∀ (s : Shared) (H : Hp) (C : Addr) (cl : List (Str × Addr)) (fp : List Addr), PTs (X.blk s H scope (compEnvC scope cl C X.env) fp) ifs (tT X.K P F0 H0 c))
    (he : ∀ (s : Shared) (H : Hp) (C : Addr) (cl : List (Str × Addr)) (fp : List Addr), PE (X.blk s H scope (compEnvC scope cl C X.env) fp) elt (tV X.K P F0 H0 f)) (hs : ∀ x, foldedSetIterable iter X.env x = pure x := by intro _; rfl) :
    PE X (.ListComp elt [⟨tg, iter, ifs, 0⟩] scope pos) (tN X.K P F0 H0 (eComp (own.map (·.2)) wi t c f)) :=
  PE.con (pe_lc hc hN hi ok hg ht he hs) fun σ H Q h => comp_of nd σ H Q h
/-! ### isinstance -/
structure IsC (K : PySem.W.Frag) (C : Addr) : Prop where
  cl : Cls K C
  ha : PySem.W.findIn K (.ref C) "__class__" = some (some (.builtin "object.__class__"))
  hn : PySem.W.specialIn K (.builtin "object.__class__") "__get__" = some (some (.builtin "getset_descriptor.__get__"))
  ht : PySem.W.takesIn K (.builtin "object.__class__") = some true
  hm : PySem.W.mroIn K C (.type "object") = some true
/-- the class behind a class's value -/
def IsiOk (K : PySem.W.Frag) (c : Value) (k : D → Option Bool) : Prop := ∀ d b, k d = some b → ∃ t, tyD d = some t ∧ PySem.W.kitOne K t c = some b ∧ ∀ C, t = .ref C → IsC K C
theorem tyx_of {K : PySem.W.Frag} {F H : Hp} {v : VV} {d : D} {t : Value} (fh : Same F H) (h : DB K P F H v d) (e : tyD d = some t) (hc : ∀ C, t = .ref C → IsC K C) : TyX K H v t := by
  cases d with
  | non => cases e; rw [h.non]; exact .base .non
  | bl b => cases e; rw [h.bl]; exact .base (.bl b)
  | int i => cases e; rw [h.int]; exact .base (.int i)
  | str z => cases e; rw [h.str]; exact .base (.str z)
  | pot => cases e
  | scr ns =>
    cases e
    obtain ⟨a, rfl, hs⟩ := h.scr fh
    rcases hs with (hs | ⟨o, hs⟩) | ⟨o, its, n, h1, h2, _⟩
    · exact .base (.lst hs)
    · exact .base (.frz hs)
    · exact .kList h1 h2
  | lst ds =>
    cases e
    obtain ⟨a, vs, rfl, ha, _⟩ := h.lst fh
    exact .base (.lst ha)
  | tup ds =>
    cases e
    obtain ⟨a, vs, rfl, hs, _⟩ := h.tup fh
    rcases hs with (hs | ⟨o, hs⟩) | ⟨o, its, n, h1, h2, _⟩
    · exact .base (.tup hs)
    · exact .fTuple hs
    · exact .kTuple h1 h2
  | ins C ns ds =>
    cases e
    obtain ⟨a, dx, fs, rfl, ha, _⟩ := h.ins fh
    have := hc C rfl
    exact .base (.ins ha this.cl this.ha this.hn this.ht this.hm)
def eIsi (k : D → Option Bool) (f : Sem1 D) : Sem1 D := fun s => match f s with
  | some (d, s1) => match k d with
    | some b => some (.bl b, s1)
    | none => none
  | none => none
/-- isinstance(e, T) -/
theorem v_isi {a c : Expr} {p : Pos} {cv : VV} {cu : Value} {k : D → Option Bool} {f : Sem1 D} (hk : IsiOk X.K cu k) (ha : PE X a (tVB X.K P F0 H0 f)) (hcv : PE X c (tC cv)) (kc : ClsV cv cu) (hm : X.mg "isinstance" = none) (hg : Gl X "isinstance" := by rfl)
    (n1 : starEach [a, c] X.env = (false, eval a X.env) :: starEach [c] X.env := by rfl) (n2 : starEach [c] X.env = (false, eval c X.env) :: starEach [] X.env := by rfl) : PE X (.Call (.Name "isinstance" p) [a, c] [] pos) (tV X.K P F0 H0 (eIsi k f)) := by
  refine PE.con (pe_callB call_isi hg hm (by decide +kernel) (pa_cons ha (pa_cons hcv pa_nil n2) n1) (he := n1) (hpl := by rw [n2]; rfl)) fun σ H Q ⟨F, s, d, s', w, e, q⟩ => ?_
  unfold eIsi at e
  split at e
  · rename_i d1 s1 e1
    split at e
    · rename_i b eb
      cases e
      obtain ⟨t, h1, h2, h3⟩ := hk d1 b eb
      refine ⟨F, s, d1, _, w, e1, fun v F' H' x w' dv => ?_⟩
      exact ⟨v, cv, t, cu, b, rfl, kc, tyx_of w'.hr.sub dv h1 h3, h2, q _ F' H' x w' (.bl b)⟩
    · cases e
  · cases e
/-- .. a tuple of classes -/
def IsiOks (K : PySem.W.Frag) (cs : List Value) (k : D → Option Bool) : Prop := ∀ d b, k d = some b → ∃ t, tyD d = some t ∧ PySem.W.kitAny K t cs = some b ∧ ∀ C, t = .ref C → IsC K C
theorem DB.upd {K : PySem.W.Frag} {F H : Hp} {v : VV} {d : D} {a : Addr} {o : HO} (h : DB K P F H v d) (n : H a = none) : DB K P F (L2.upd H a o) v d := by
  rcases h with h | ⟨b, ev, pb, r⟩
  · exact .inl h
  · exact .inr ⟨b, ev, pb, r.mono (Same.refl _) fun o' z => by rw [upd_ne (ne_of_none z n)]; exact z⟩
theorem v_isi2 {a c1 c2 : Expr} {p p2 : Pos} {x1 : Nat} {v1 v2 : VV} {u1 u2 : Value} {k : D → Option Bool} {f : Sem1 D} (hk : IsiOks X.K [u1, u2] k) (ha : PE X a (tVB X.K P F0 H0 f)) (h1 : PE X c1 (tC v1)) (k1 : ClsV v1 u1) (h2 : PE X c2 (tC v2)) (k2 : ClsV v2 u2) (hm : X.mg "isinstance" = none) (hg : Gl X "isinstance" := by rfl)
    (n1 : starEach [a, .Tuple [c1, c2] x1 p2] X.env = (false, eval a X.env) :: starEach [.Tuple [c1, c2] x1 p2] X.env := by rfl) (n2 : starEach [.Tuple [c1, c2] x1 p2] X.env = (false, eval (.Tuple [c1, c2] x1 p2) X.env) :: starEach [] X.env := by rfl)
    (n3 : starEach [c1, c2] X.env = (false, eval c1 X.env) :: starEach [c2] X.env := by rfl) (n4 : starEach [c2] X.env = (false, eval c2 X.env) :: starEach [] X.env := by rfl) : PE X (.Call (.Name "isinstance" p) [a, .Tuple [c1, c2] x1 p2] [] pos) (tV X.K P F0 H0 (eIsi k f)) := by
  refine PE.con (pe_callB call_isiT hg hm (by decide +kernel) (pa_cons ha (pa_cons (pe_tup (pa_cons h1 (pa_cons h2 pa_nil n4) n3)) pa_nil n2) n1) (he := n1) (hpl := by rw [n2]; rfl)) fun σ H Q ⟨F, s, d, s', w, e, q⟩ => ?_
  unfold eIsi at e
  split at e
  · rename_i d1 s1 e1
    split at e
    · rename_i b eb
      cases e
      obtain ⟨t, g1, g2, g3⟩ := hk d1 b eb
      refine ⟨F, s, d1, _, w, e1, fun v F' H' x w' dv => ?_⟩
      refine ⟨(by show 2 ≤ sizeLine; decide), fun a na => ?_⟩
      have gr := Grow.updH (o := .tup [v1, v2]) w'.hr.sub na
      exact ⟨v, a, [v1, v2], t, [u1, u2], b, rfl, upd_same, .cons k1 (.cons k2 .nil), tyx_of (w'.hr.grow gr).sub (dv.upd na) g1 g3, g2, q _ F' _ (x.trans gr.ex) (w'.grow gr) (.bl b)⟩
    · cases e
  · cases e
/-! ### within an __init__ -/
variable {x C : Addr} {F : Hp} {σ : St} {H : Hp} {s s' : S} {ns : List Str} {ds : List D}
theorem IR.ex {F' H' : Hp} (h : IR X.K P F0 H0 F x C σ H s ns ds) (e : Ex P σ F H s F' H' s') (w : SR X.K P F0 H0 F' σ H' s') (un : s'.sl[0]? = some .un) : IR X.K P F0 H0 F' x C σ H' s' ns ds := by
  have hne : H x ≠ none := by
    obtain ⟨dx, fs, q, _⟩ := h.ob
    rw [q]
    exact fun z => nomatch z
  exact ⟨w, h.me, un, e.nf x h.px hne h.fx h.no, h.px, h.hx, h.no.ex e, h.ob.mono e.ff fun o z => (e.hh x o z).resolve_left h.px⟩
/-- a statement of an __init__ keeps self -/
def un0 (s : S) : Option S := match s.sl[0]? with
  | some Sl.un => some s
  | _ => none
theorem un0_eq {s s' : S} (h : un0 s = some s') : s = s' ∧ s'.sl[0]? = some .un := by
  unfold un0 at h
  split at h
  · cases h
    exact ⟨rfl, by assumption⟩
  · cases h
def jNil : Si → Option Si := some
theorem j_nil : PSs X [] (tS0 X.K P F0 H0 x C jNil) := PSs.con pss_nil fun D σ H ⟨F, s, ns, ds, s', ns', ds', J, e, q⟩ => by
  cases e
  exact q σ F H J
def jSeq (b b' : Si → Option Si) : Si → Option Si := fun a => match b a with
  | some a' => b' a'
  | none => none
theorem j_cons {st : Stmt} {rest : List Stmt} {b b' : Si → Option Si} (h1 : PS X st (tS0 X.K P F0 H0 x C b)) (h2 : PSs X rest (tS0 X.K P F0 H0 x C b')) : PSs X (st :: rest) (tS0 X.K P F0 H0 x C (jSeq b b')) := by
  refine PSs.con (pss_cons h1 h2) fun D σ H ⟨F, s, ns, ds, s', ns', ds', J, e, q⟩ => ?_
  unfold jSeq at e
  split at e
  · rename_i a' e1
    obtain ⟨s1, ns1, ds1⟩ := a'
    exact ⟨F, s, ns, ds, s1, ns1, ds1, J, e1, fun σ1 F1 H1 J1 => ⟨F1, s1, ns1, ds1, s', ns', ds', J1, e, q⟩⟩
  · cases e
theorem j_never {st : List Stmt} : PSs X st (tS0 X.K P F0 H0 x C fun _ => none) := ⟨fun pins s σ H D I ⟨F, _, _, _, _, _, _, _, e, _⟩ => nomatch e⟩
def jIf (c : Sem1 Bool) (b b' : Si → Option Si) : Si → Option Si := fun a => match c a.1 with
  | some (true, s1) => match un0 s1 with
    | some s1 => b (s1, a.2)
    | none => none
  | some (false, s1) => match un0 s1 with
    | some s1 => b' (s1, a.2)
    | none => none
  | none => none
theorem j_if {c : Expr} {th el : List Stmt} {t : Sem1 Bool} {b b' : Si → Option Si} (hc : PT X c (tT X.K P F0 H0 t)) (ha : PSs X th (tS0 X.K P F0 H0 x C b)) (hb : PSs X el (tS0 X.K P F0 H0 x C b')) : PS X (.If c th el pos) (tS0 X.K P F0 H0 x C (jIf t b b')) := by
  refine PS.con (ps_if hc ha hb) fun D σ H ⟨F, s, ns, ds, s', ns', ds', J, e, q⟩ => ?_
  unfold jIf at e
  split at e
  · rename_i s1 e1
    split at e
    · rename_i s2 e2
      obtain ⟨rfl, eu⟩ := un0_eq e2
      exact ⟨F, s, true, s1, J.w, e1, fun F1 H1 x1 r1 => iteT ⟨F1, s1, ns, ds, s', ns', ds', J.ex x1 r1 eu, e, q⟩⟩
    · cases e
  · rename_i s1 e1
    split at e
    · rename_i s2 e2
      obtain ⟨rfl, eu⟩ := un0_eq e2
      exact ⟨F, s, false, s1, J.w, e1, fun F1 H1 x1 r1 => iteF ⟨F1, s1, ns, ds, s', ns', ds', J.ex x1 r1 eu, e, q⟩⟩
    · cases e
  · cases e
/-- name = e -/
def jSet (i : Nat) (f : Sem1 D) : Si → Option Si := fun a => match f a.1 with
  | some (d, s1) => match un0 s1 with
    | some s1 => some ({ s1 with sl := s1.sl.set (i + 1) (.sh d) }, a.2)
    | none => none
  | none => none
theorem j_set (i : Nat) {y : Str} {e : Expr} {f : Sem1 D} {pos' : Pos} (hN : X.N.Nodup) (he : PE X e (tV X.K P F0 H0 f)) (hi : X.N[i + 1]? = some y := by rfl) (hx : Loc X.env.scope y := by first | exact .inl rfl | exact .inr rfl) (hs : swapsWith e (some (.Name y pos')) pos.line X.env = pure false := by rfl)
    (hf : X.fn y = true ∨ X.env.scope.names.lookup y = some .local := by first | exact .inl rfl | exact .inr rfl) : PS X (.Assign [.Name y pos'] e pos) (tS0 X.K P F0 H0 x C (jSet i f)) := by
  refine PS.con (ps_set hN hi hx he hs hf) fun D σ H ⟨F, s, ns, ds, s', ns', ds', J, e, q⟩ => ?_
  unfold jSet at e
  split at e
  · rename_i d s1 e1
    split at e
    · rename_i s2 e2
      obtain ⟨rfl, eu⟩ := un0_eq e2
      cases e
      refine ⟨F, s, d, s1, J.w, e1, fun v F1 H1 x1 w1 d1 => q _ F1 H1 ?_⟩
      have J1 := J.ex x1 w1 eu
      refine ⟨w1.put d1, ?_, ?_, J1.fx, J1.px, J1.hx, fun j d2 z1 z2 => ?_, J1.ob⟩
      · rw [List.getElem?_set_ne (Nat.succ_ne_zero i)]
        exact J1.me
      · show (s1.sl.set (i + 1) (.sh d))[0]? = some .un
        rw [List.getElem?_set_ne (Nat.succ_ne_zero i)]
        exact J1.un
      · have z3 := ow_set (fun d z => by cases z) z1
        by_cases hj : i + 1 = j
        · subst hj
          have z1 : (s1.sl.set (i + 1) (.sh d))[i + 1]? = some (.ow d2) := z1
          rw [List.getElem?_set_self (List.getElem?_eq_some_iff.mp z3).1] at z1
          cases z1
        · rw [List.getElem?_set_ne hj] at z2
          exact J1.no j d2 z3 z2
    · cases e
  · cases e
/-- self.a = e, a new attribute -/
def jFld (a : Str) (f : Sem1 D) : Si → Option Si := fun si => match f si.1 with
  | some (d, s1) => match un0 s1 with
    | some s1 => if si.2.1.contains a = false ∧ si.2.1.length < 1000 then some (s1, si.2.1 ++ [a], si.2.2 ++ [d]) else none
    | none => none
  | none => none
theorem putF_new {a : Str} {v : VV} : ∀ {fs : List (Str × VV)}, (fs.map (·.1)).contains a = false → putF a v fs = fs ++ [(a, v)]
  | [], _ => rfl
  | (y, u) :: fs, h => by
    rw [List.map_cons, List.contains_cons, Bool.or_eq_false_iff] at h
    have hy : ¬ y = a := fun z => by rw [z] at h; simp at h
    show (if y = a then _ else (y, u) :: putF a v fs) = _
    rw [if_neg hy, putF_new h.2]
    rfl
theorem j_fld {a : Str} {e : Expr} {f : Sem1 D} {p1 p2 : Pos} (cl : Cls X.K C) (na : NoAttr X.K C a) (he : PE X e (tV X.K P F0 H0 f)) (h0 : X.N[0]? = some ("self" : Str) := by rfl) (hv : Vis X.env.scope "self" := by first | exact .inl rfl | exact .inr (.inl rfl))
    (hs : swapsWith e (some (.Attribute (.Name "self" p1) a p2)) pos.line X.env = pure false := by rfl) : PS X (.Assign [.Attribute (.Name "self" p1) a p2] e pos) (tS0 X.K P F0 H0 x C (jFld a f)) := by
  refine PS.con (ps_fld (pe_var (i := 0) h0 hv) he hs) fun D σ H ⟨F, s, ns, ds, s', ns', ds', J, e, q⟩ => ?_
  unfold jFld at e
  split at e
  · rename_i d s1 e1
    split at e
    · rename_i s2 e2
      split at e
      · rename_i hc
        obtain ⟨rfl, eu⟩ := un0_eq e2
        cases e
        refine ⟨F, s, d, _, J.w, e1, fun v F1 H1 x1 w1 d1 => ?_⟩
        have J1 := J.ex x1 w1 eu
        obtain ⟨dx, fs, ex, en, rd⟩ := J1.ob
        have hl : fs.length = ns.length := by rw [← en, List.length_map]
        refine ⟨.ref x, J1.me, x, C, dx, fs, rfl, ex, cl, na, by rw [hl]; exact hc.2, q σ F1 _ ?_⟩
        refine ⟨w1.side J1.fx J1.px J1.hx J1.no, J1.me, J1.un, J1.fx, J1.px, J1.hx, J1.no, ?_⟩
        have ef : putF a v fs = fs ++ [(a, v)] := putF_new (by rw [en]; exact hc.1)
        exact ⟨dx, putF a v fs, upd_same, by rw [ef, List.map_append, en]; rfl, by rw [ef, List.map_append]; exact rd.append (.cons d1 .nil)⟩
      · cases e
    · cases e
  · cases e
end
end VS
end
section
set_option Elab.async false
set_option linter.all false
set_option maxRecDepth 100000
set_option maxHeartbeats 4000000
namespace VS
open PySem PySem.Spec PyProof.Rows L2
/-! ### == of scalars -/
def gSEq (ne : Bool) : G2
  | .int i, .int j => some (.bl (outB ne (decide (i = j))))
  | .str i, .str j => some (.bl (outB ne (decide (i = j))))
  | .bl i, .bl j => some (.bl (outB ne (decide (i = j))))
  | _, _ => none
section
variable {K : PySem.W.Frag} {P : Option Addr}
theorem ov_seq : OpV K P rEq (gSEq false) := by
  intro F H x y d e c Q fh hx hy hg q
  unfold gSEq at hg
  split at hg
  · cases hg
    rw [hx.int, hy.int]
    exact ⟨rfl, q _ F H (.refl fh) (by simp only [outB, Bool.false_eq_true, if_false, V.int.injEq]; exact .bl _)⟩
  · cases hg
    rw [hx.str, hy.str]
    exact ⟨rfl, q _ F H (.refl fh) (by simp only [outB, Bool.false_eq_true, if_false, V.str.injEq]; exact .bl _)⟩
  · cases hg
    rw [hx.bl, hy.bl]
    exact ⟨rfl, q _ F H (.refl fh) (by simp only [outB, Bool.false_eq_true, if_false, V.bl.injEq]; exact .bl _)⟩
  · cases hg
theorem ov_sne : OpV K P rNe (gSEq true) := by
  intro F H x y d e c Q fh hx hy hg q
  unfold gSEq at hg
  split at hg
  · cases hg
    rw [hx.int, hy.int]
    exact ⟨rfl, q _ F H (.refl fh) (by simp only [outB, if_true, V.int.injEq]; exact .bl _)⟩
  · cases hg
    rw [hx.str, hy.str]
    exact ⟨rfl, q _ F H (.refl fh) (by simp only [outB, if_true, V.str.injEq]; exact .bl _)⟩
  · cases hg
    rw [hx.bl, hy.bl]
    exact ⟨rfl, q _ F H (.refl fh) (by simp only [outB, if_true, V.bl.injEq]; exact .bl _)⟩
  · cases hg
end
/-- two meanings, the first that answers -/
def gOr (g g' : G2) : G2 := fun d e => match g d e with
  | some c => some c
  | none => g' d e
/-! ### texts -/
section
variable {X : Cx} {P : Option Addr} {F0 H0 : Hp} {pos : Pos} {g : Bool} {k : Nat}
/-- a built-in call of one settled value -/
def CallP (K : PySem.W.Frag) (P : Option Addr) (r : List VV → Hp → VK → Prop) (g : D → Option D) : Prop := ∀ (F H : Hp) (pt : Pt) (x : VV) (d c : D) (Q : VK), HR P F H F H pt → DR K P F x d → g d = some c → (∀ v F' H', HR P F H F' H' pt → DR K P F' v c → Q v H') → r [x] H Q
def gOr1 (g g' : D → Option D) : D → Option D := fun d => match g d with
  | some c => some c
  | none => g' d
theorem CallP.or {K : PySem.W.Frag} {r r' : List VV → Hp → VK → Prop} {g g' : D → Option D} (h : CallP K P r g) (h' : CallP K P r' g') : CallP K P (fun x H Q => r x H Q ∨ r' x H Q) (gOr1 g g') := by
  intro F H pt x d c Q fh hx hg q
  unfold gOr1 at hg
  split at hg
  · rename_i c' ec
    cases hg
    exact .inl (h F H pt x d c Q fh hx ec q)
  · exact .inr (h' F H pt x d c Q fh hx hg q)
theorem CallR.or' {fv : Value} {r r' : List VV → Hp → VK → Prop} (h : CallR X fv r) (h' : CallR X fv r') : CallR X fv (fun x H Q => r x H Q ∨ r' x H Q) := fun pins s σ H vs us Q I r z => z.elim (h pins s σ H vs us Q I r) (h' pins s σ H vs us Q I r)
theorem tCB_P {r : List VV → Hp → VK → Prop} {g : D → Option D} {f : Sem1 D} {a : Expr} (hr : CallP X.K P r g) (σ : St) (H : Hp) (Q : VK) (h : tV X.K P F0 H0 (e1 g f) σ H Q) : tCB r (tCons (tV X.K P F0 H0 f) tNil) σ H Q := by
  obtain ⟨F, s, c, s', r0, e, q⟩ := h
  unfold e1 at e
  split at e
  · rename_i d s1 e1
    split at e
    · rename_i c' ec
      cases e
      exact ⟨F, s, d, _, r0, e1, fun v F1 H1 x1 w1 d1 => hr F1 H1 s'.pot v d _ Q w1.hr.refl d1 ec fun v2 F2 H2 h2 d2 => q v2 F2 H2 (x1.trans h2.ex) (w1.call h2) d2⟩
    · cases e
  · cases e
theorem v_call1 {r : List VV → Hp → VK → Prop} {g : D → Option D} {f : Sem1 D} {x : Str} {p : Pos} {e : Expr} {id : String} (hc : CallR X (.builtin id) r) (hr : CallP X.K P r g) (hm : X.mg x = none) (ha : PE X e (tV X.K P F0 H0 f))
    (hg : Gl X x := by rfl) (hv : bootBuiltins x = some (.builtin id) := by decide +kernel) (hn : x ≠ "__name__" := by decide) (hdb : (x == ("__debug__" : Str)) = false := by decide)
    (he : starEach [e] X.env = (false, eval e X.env) :: starEach [] X.env := by rfl) : PE X (.Call (.Name x p) [e] [] pos) (tV X.K P F0 H0 (e1 g f)) :=
  PE.con (pe_callB hc hg hm hv (pa_cons ha pa_nil he) hn hdb he rfl) fun σ H Q h => tCB_P (a := e) hr σ H Q h
theorem v_callT1 {r : List VV → Hp → VK → Prop} {g : D → Option D} {f : Sem1 D} {x : Str} {p : Pos} {e : Expr} {T : String} (hc : CallR X (.type T) r) (hr : CallP X.K P r g) (hm : X.mg x = none) (ha : PE X e (tV X.K P F0 H0 f))
    (hg : Gl X x := by rfl) (hv : bootBuiltins x = some (.type T) := by decide +kernel) (hn : x ≠ "__name__" := by decide) (hdb : (x == ("__debug__" : Str)) = false := by decide)
    (he : starEach [e] X.env = (false, eval e X.env) :: starEach [] X.env := by rfl) : PE X (.Call (.Name x p) [e] [] pos) (tV X.K P F0 H0 (e1 g f)) :=
  PE.con (pe_callTy hc hg hm hv (pa_cons ha pa_nil he) hn hdb he rfl) fun σ H Q h => tCB_P (a := e) hr σ H Q h
/-- the text of an int -/
def gTxt : D → Option D
  | .int i => if i.natAbs.log2 < 1920 then some (.str (toString i)) else none
  | _ => none
theorem cp_strI : CallP X.K P (fun xs H Q => ∃ i : Int, xs = [.int i] ∧ i.natAbs.log2 < 1920 ∧ Q (.str (toString i)) H) gTxt := by
  intro F H pt x d c Q h dx eg q
  unfold gTxt at eg
  split at eg
  · split at eg
    · rename_i hl
      cases eg
      cases dx
      exact ⟨_, rfl, hl, q _ F H h (.str _)⟩
    · cases eg
  · cases eg
/-- the text of an instance, by a def of its own -/
def gOwnT (C : Addr) (cf : List D → Option D) : D → Option D
  | .ins C1 n1 d1 => if C1 = C then match cf [.ins C1 n1 d1] with
      | some (.str z) => some (.str z)
      | _ => none
    else none
  | _ => none
def rOwnT (K : PySem.W.Frag) (P : Option Addr) (C : Addr) (cf : List D → Option D) : List VV → Hp → VK → Prop := fun xs H Q => ∃ F pt x d c, xs = [x] ∧ HR P F H F H pt ∧ DR K P F x d ∧ gOwnT C cf d = some c ∧ ∀ v F' H', HR P F H F' H' pt → DR K P F' v c → Q v H'
theorem cp_own {C : Addr} {cf : List D → Option D} : CallP X.K P (rOwnT X.K P C cf) (gOwnT C cf) := fun F H pt x d c Q h dx eg q => ⟨F, pt, x, d, c, rfl, h, dx, eg, q⟩
theorem own_txt {C f : Addr} {fd : FuncData} {ps : List Str} {c : Fn} {cf : List D → Option D} {pins : List (Addr × Obj)} {σ : St} {H F1 : Hp} {s : Shared} {pt : Pt} {Q : VK} {A : Around} {p : Addr} {n1 : List Str} {d1 : List D} {z : Str} (F : FnG g X.prog X.w X.K X.mg X.base k f fd ps (spF X.K 1 c)) (sb : SubG X g k A) (bf : BK X.K fd ps 1 [] [0] []) (pf : Pure c cf)
    (I : Inv X pins σ H s) (h : HR P F1 H F1 H pt) (dx : DR X.K P F1 (.ref p) (.ins C n1 d1)) (e : cf [.ins C n1 d1] = some (.str z)) (q : ∀ v F' H', HR P F1 H F' H' pt → DR X.K P F' v (.str z) → Q v H') :
    wpAny (model X.prog X.w) A (call (.ref f) [.ref p]) (PySem.W.StrBack (EP X pins σ Q)) X.xe s := by
  refine wpAny_mono (F.sub sb I (hb := bf.to s [.ref p] [] I.kIn rfl rfl) (show Vals [V.ref p] [Value.ref p] from .cons rfl .nil) (Q := fun v H' => ∃ F', HR P F1 H F' H' pt ∧ DR X.K P F' v (.str z)) ⟨rfl, P, F1, _, pt, _, pt, h, .cons dx .nil, pf _ pt _ e, fun w F' H' h' d' => ⟨F', h', d'⟩⟩) (fun w s' ⟨v, H', I', r, F', h', d'⟩ => ?_) fun _ _ z => z
  cases d'
  obtain ⟨t, rfl⟩ := r
  exact ⟨V.str z, H', I', ⟨t, rfl⟩, q _ F' H' h' (.str z)⟩
theorem call_reprO {C f : Addr} {fd : FuncData} {ps : List Str} {c : Fn} {cf : List D → Option D} (hs : PySem.W.findIn X.K (.ref C) "__repr__" = some (some (.ref f))) (hf : PySem.W.isFn X.K (.ref f) = true) (F : FnG g X.prog X.w X.K X.mg X.base k f fd ps (spF X.K 1 c)) (hr : RmG g (k + 1) X.A) (bf : BK X.K fd ps 1 [] [0] []) (pf : Pure c cf) : CallR X (.builtin "repr") (rOwnT X.K P C cf) := by
  intro pins s σ H xs us Q I r ⟨F1, pt, x, d, cc, ex, h, dx, eg, q⟩
  subst ex
  obtain ⟨u, rfl, ru⟩ := vals1 r
  unfold gOwnT at eg
  split at eg
  · split at eg
    · rename_i hc
      subst hc
      split at eg
      · rename_i z ez
        cases eg
        have dx' := dx
        cases dx' with
        | @ins p _ dxa fs _ _ hp en rp =>
          cases ru
          obtain ⟨m, hF⟩ := I.fr
          obtain ⟨mA, O, _⟩ := ins_get I.hok (h.sub _ _ hp)
          obtain ⟨od, J, _⟩ := O.look
          have sb : SubG X g (k + 1) X.A := ⟨hr, rfl⟩
          exact PySem.W.repr_K (by have := hr.rm.units; show X.A.units + 1 < cLine; omega) hF I.ok.mod.kin J hs hf (own_txt F sb.in1 bf pf I h dx ez q)
      · cases eg
    · cases eg
  · cases eg
theorem call_strO {C f : Addr} {fd : FuncData} {ps : List Str} {c : Fn} {cf : List D → Option D} (hs : PySem.W.findIn X.K (.ref C) "__str__" = some (some (.ref f))) (hf : PySem.W.isFn X.K (.ref f) = true) (F : FnG g X.prog X.w X.K X.mg X.base k f fd ps (spF X.K 1 c)) (hr : RmG g (k + 2) X.A) (bf : BK X.K fd ps 1 [] [0] []) (pf : Pure c cf) : CallR X (.type "str") (rOwnT X.K P C cf) := by
  intro pins s σ H xs us Q I r ⟨F1, pt, x, d, cc, ex, h, dx, eg, q⟩
  subst ex
  obtain ⟨u, rfl, ru⟩ := vals1 r
  unfold gOwnT at eg
  split at eg
  · split at eg
    · rename_i hc
      subst hc
      split at eg
      · rename_i z ez
        cases eg
        have dx' := dx
        cases dx' with
        | @ins p _ dxa fs _ _ hp en rp =>
          cases ru
          obtain ⟨mA, O, _⟩ := ins_get I.hok (h.sub _ _ hp)
          obtain ⟨od, J, _⟩ := O.look
          have sb : SubG X g (k + 2) X.A := ⟨hr, rfl⟩
          exact PySem.W.kso_call (by have := hr.rm.units; show X.A.units + 1 + 1 < cLine; omega) I.kIn J hs hf (own_txt F sb.in1.in1 bf pf I h dx ez q)
      · cases eg
    · cases eg
  · cases eg
/-! ### repr of a list of scalars -/
def txtD : D → Option Str
  | .int i => if i.natAbs.log2 < 1920 then some (toString i) else none
  | .bl b => some (if b then "True" else "False")
  | _ => none
def txtDs : List D → Option (List Str)
  | [] => some []
  | d :: ds => match txtD d, txtDs ds with
    | some t, some ts => some (t :: ts)
    | _, _ => none
def gReprL : D → Option D
  | .lst (d :: ds) => match txtDs (d :: ds) with
    | some ts => if (listText ts).length ≤ LIM then some (.str (listText ts)) else none
    | none => none
  | _ => none
theorem txtD_repr {prog : Program} {w : World} {K : PySem.W.Frag} {F : Hp} {v : VV} {u : Value} {d : D} {t : Str} (dv : DR K P F v d) (r : RelV v u) (e : txtD d = some t) : ReprIs prog w u t := by
  unfold txtD at e
  split at e
  · split at e
    · rename_i hl
      cases e
      cases dv
      obtain ⟨t, rfl⟩ := r
      exact ReprIs.int t hl
    · cases e
  · cases e
    cases dv
    cases r
    exact ReprIs.bool _
  · cases e
theorem txtDs_repr {prog : Program} {w : World} {K : PySem.W.Frag} {F : Hp} : ∀ {vs : List VV} {us : List Value} {ds : List D} {ts : List Str}, DRs K P F vs ds → Vals vs us → txtDs ds = some ts → ts.length = us.length ∧ ∀ (i : Nat) (y : Value), us[i]? = some y → ∃ t, ts[i]? = some t ∧ ReprIs prog w y t
  | _, _, _, _, .nil, .nil, e => by
    cases e
    exact ⟨rfl, fun i y z => by simp at z⟩
  | _, _, _, _, .cons h t, .cons r rt, e => by
    unfold txtDs at e
    split at e
    · rename_i t1 ts1 e1 e2
      cases e
      obtain ⟨hl, hs⟩ := txtDs_repr (prog := prog) (w := w) t rt e2
      refine ⟨congrArg Nat.succ hl, fun i y z => ?_⟩
      cases i with
      | zero => simp at z; subst z; exact ⟨t1, rfl, txtD_repr h r e1⟩
      | succ i => exact hs i y (by simpa using z)
    · cases e
theorem call_reprL (hr : RmG true k X.A) : CallR X (.builtin "repr") (fun xs H Q => ∃ F pt x d c, xs = [x] ∧ HR P F H F H pt ∧ DR X.K P F x d ∧ gReprL d = some c ∧ ∀ v F' H', HR P F H F' H' pt → DR X.K P F' v c → Q v H') := by
  intro pins s σ H xs us Q I r ⟨F1, pt, x, d, cc, ex, h, dx, eg, q⟩
  subst ex
  obtain ⟨u, rfl, ru⟩ := vals1 r
  unfold gReprL at eg
  split at eg
  · rename_i d0 ds0
    split at eg
    · rename_i ts et
      split at eg
      · rename_i hl
        cases eg
        cases dx with
        | @lst a vs _ ha rv =>
          cases ru
          obtain ⟨z, its, kk, r2, e2⟩ := I.hok a _ (h.sub _ _ ha)
          obtain ⟨hlen, hT⟩ := txtDs_repr (prog := X.prog) (w := X.w) rv r2 et
          have : ∃ x0 l0, its = x0 :: l0 := by
            cases its with
            | nil => have := rv.length; rw [r2.length] at this; cases this
            | cons x0 l0 => exact ⟨x0, l0, rfl⟩
          obtain ⟨x0, l0, rfl⟩ := this
          refine call_repr_slot (by have := hr.rm.units; omega) ⟨_, e2, rfl⟩ PySem.F.slot_list_repr.toG (call_list_reprK (as := []) (h₀ := s.heap) (d := 0) e2 rfl rfl (by simp) (by rw [List.size_toArray]; exact hlen) (fun i y z => ?_) (hr.gd rfl) (fun b _ => Clear.nil b) (by have := hr.rm.units; show X.A.units + 1 + (0 + 1) < cLine; omega) (fun _ _ z => z) (fun h' u tk kp => ⟨_, _, rfl, V.str (listText ts), H, I.kept kp, ⟨u, rfl⟩, q _ F1 H h (.str _)⟩) (le_lim hl))
          obtain ⟨t, h1, h2⟩ := hT i y (by simpa using z)
          exact ⟨t, h1, ReprK.of_is h2 [] s.heap 0⟩
      · cases eg
    · cases eg
  · cases eg
/-! ### f-strings -/
def eFmt (f : Sem1 D) : Sem1 D := fun s => match f s with
  | some (.str z, s1) => if z.length ≤ LIM then some (.str z, s1) else none
  | some (.int i, s1) => if i.natAbs.log2 < 1920 then some (.str (toString i), s1) else none
  | _ => none
theorem v_fmt {e : Expr} {f : Sem1 D} (he : PE X e (tV X.K P F0 H0 f)) : PE X (.FormattedValue e (-1) none pos) (tV X.K P F0 H0 (eFmt f)) := by
  refine PE.con (pe_fmt he) fun σ H Q ⟨F, s, d, s', w, e, q⟩ => ?_
  unfold eFmt at e
  split at e
  · rename_i z s1 e1
    split at e
    · rename_i hl
      cases e
      refine ⟨F, s, _, _, w, e1, fun v F' H' x w' dv => ?_⟩
      cases dv
      exact .inl ⟨z, rfl, le_lim hl, q _ F' H' x w' (.str z)⟩
    · cases e
  · rename_i i s1 e1
    split at e
    · rename_i hl
      cases e
      refine ⟨F, s, _, _, w, e1, fun v F' H' x w' dv => ?_⟩
      cases dv
      exact .inr ⟨i, rfl, hl, q _ F' H' x w' (.str _)⟩
    · cases e
  · cases e
def joinF : List (Sem1 D) → Str → S → Option (Str × S)
  | [], acc, s => some (acc, s)
  | f :: fs, acc, s => match f s with
    | some (.str z, s1) => if (acc ++ z).length ≤ LIM then joinF fs (acc ++ z) s1 else none
    | _ => none
def eJoin (fs : List (Sem1 D)) : Sem1 D := fun s => match joinF fs Str.empty s with
  | some (z, s1) => some (.str z, s1)
  | none => none
inductive PJv (X : Cx) (P : Option Addr) (F0 H0 : Hp) : List Expr → List (Sem1 D) → Prop
  | nil : PJv X P F0 H0 [] []
  | cons {e : Expr} {f : Sem1 D} {es : List Expr} {fs : List (Sem1 D)} (h : PE X e (tV X.K P F0 H0 f)) (r : PJv X P F0 H0 es fs) : PJv X P F0 H0 (e :: es) (f :: fs)
theorem PJv.pj {es : List Expr} {fs : List (Sem1 D)} (h : PJv X P F0 H0 es fs) : PJ X es (fs.map fun f => tV X.K P F0 H0 f) := by
  induction h with
  | nil => exact .nil
  | cons h r ih => exact .cons h ih
theorem tJs_of : ∀ {fs : List (Sem1 D)} {acc : Str} {F : Hp} {σ : St} {H : Hp} {s s' : S} {z : Str} {Q : Str → Hp → Prop}, SR X.K P F0 H0 F σ H s → joinF fs acc s = some (z, s') → (∀ F' H', Ex P σ F H s F' H' s' → SR X.K P F0 H0 F' σ H' s' → Q z H') → tJs (fs.map fun f => tV X.K P F0 H0 f) acc σ H Q
  | [], acc, F, σ, H, s, s', z, Q, w, e, q => by
    cases e
    exact q F H .refl w
  | f :: fs, acc, F, σ, H, s, s', z, Q, w, e, q => by
    unfold joinF at e
    split at e
    · rename_i z1 s1 e1
      split at e
      · rename_i hl
        refine ⟨F, s, _, s1, w, e1, fun v F' H' x w' dv => ?_⟩
        cases dv
        exact ⟨z1, rfl, le_lim hl, tJs_of w' e fun F2 H2 x2 w2 => q F2 H2 (x.trans x2) w2⟩
      · cases e
    · cases e
theorem v_join {v1 v2 : Expr} {rest : List Expr} {fs : List (Sem1 D)} (h : PJv X P F0 H0 (v1 :: v2 :: rest) fs) : PE X (.JoinedStr (v1 :: v2 :: rest) pos) (tV X.K P F0 H0 (eJoin fs)) := by
  refine PE.con (pe_joined h.pj) fun σ H Q ⟨F, s, d, s', w, e, q⟩ => ?_
  unfold eJoin at e
  split at e
  · rename_i z s1 e1
    cases e
    exact tJs_of w e1 fun F' H' x w' => q _ F' H' x w' (.str z)
  · cases e
theorem v_join1 {e : Expr} {f : Sem1 D} (h : PE X e (tV X.K P F0 H0 f)) : PE X (.JoinedStr [e] pos) (tV X.K P F0 H0 f) := pe_joined1 h
/-! ### slices of texts -/
def eCutS (f : Sem1 D) (lo hi : Option (Sem1 D)) : Sem1 D := fun s => match f s with
  | some (.str z, s1) => match partD lo s1 with
    | some (l, s2) => match partD hi s2 with
      | some (h, s3) => if z.length ≤ LIM then some (.str (Txt.slice z l h), s3) else none
      | none => none
    | none => none
  | _ => none
theorem v_cutS {e : Expr} {lo hi : Option Expr} {f : Sem1 D} {gl gh : Option (Sem1 D)} {p2 : Pos} (he : PE X e (tV X.K P F0 H0 f)) (hl : PO X lo (tPO X.K P F0 H0 gl)) (hh : PO X hi (tPO X.K P F0 H0 gh)) : PE X (.Subscript e (.Slice lo hi none p2) pos) (tV X.K P F0 H0 (eCutS f gl gh)) := by
  refine PE.con (pe_slice C8.sl_txt he hl hh) fun σ H Q ⟨F, s, d, s', w, e, q⟩ => ?_
  unfold eCutS at e
  split at e
  · rename_i z s1 e1
    split at e
    · rename_i l s2 e2
      split at e
      · rename_i h s3 e3
        split at e
        · rename_i hz
          cases e
          refine ⟨F, s, _, s1, w, e1, fun v F1 H1 x1 w1 d1 => ⟨F1, s1, l, s2, w1, e2, fun F2 H2 x2 w2 => ⟨F2, s2, h, _, w2, e3, fun F3 H3 x3 w3 => ?_⟩⟩⟩
          cases d1
          exact ⟨z, rfl, le_lim hz, q _ F3 H3 ((x1.trans x2).trans x3) w3 (.str _)⟩
        · cases e
      · cases e
    · cases e
  · cases e
end
end VS
end
section
set_option Elab.async false
set_option linter.all false
set_option maxRecDepth 100000
set_option maxHeartbeats 4000000
namespace VS
open PySem PySem.Spec PyProof.Rows L2
/-! ### the frame of a def whose first argument is no datum -/
theorem sr_start1 {K : PySem.W.Frag} {P : Option Addr} {F0 H0 F H : Hp} {N : List Str} {v0 : VV} {us : List VV} {ds : List D} {pt : Pt} (hr : HR P F0 H0 F H pt) (r : DRs K P F us ds) (hul : us.length + 1 ≤ N.length) : SR K P F0 H0 F (L2.start N (v0 :: us)) H (atI N.length ds pt) := by
  have el : us.length = ds.length := r.length
  have sl0 : ∀ (i : Nat) (d : D), (atI N.length ds pt).sl[i]? ≠ some (.ow d) := fun i d z => by
    cases i with
    | zero => cases z
    | succ i =>
      have z : (ds.map Sl.sh ++ List.replicate (N.length - (ds.length + 1)) Sl.un)[i]? = some (.ow d) := z
      by_cases hi : i < (ds.map Sl.sh).length
      · rw [List.getElem?_append_left hi, List.getElem?_map] at z
        cases q : ds[i]? with
        | none => rw [q] at z; cases z
        | some d' => rw [q] at z; cases z
      · rw [List.getElem?_append_right (by omega), List.getElem?_replicate] at z
        split at z <;> cases z
  refine ⟨hr, ?_, fun i o l e1 e2 => ?_, fun i j a d d' e1 e2 e3 e4 => absurd e2 (sl0 i d), fun i a d e1 e2 => absurd e2 (sl0 i d)⟩
  · unfold L2.start atI
    simp only [List.length_append, List.length_map, List.length_replicate, List.length_cons]
    omega
  · cases i with
    | zero =>
      cases e1
      cases e2
      exact True.intro
    | succ i =>
      have e1 : (us.map some ++ List.replicate (N.length - (us.length + 1)) none)[i]? = some o := e1
      have e2 : (ds.map Sl.sh ++ List.replicate (N.length - (ds.length + 1)) Sl.un)[i]? = some l := e2
      by_cases hi : i < us.length
      · have h1 : i < (us.map some).length := by simpa using hi
        have h2 : i < (ds.map Sl.sh).length := by rw [List.length_map, ← el]; exact hi
        rw [List.getElem?_append_left h1, List.getElem?_map] at e1
        rw [List.getElem?_append_left h2, List.getElem?_map] at e2
        cases q : ds[i]? with
        | none => rw [q] at e2; cases e2
        | some d =>
          rw [q] at e2
          cases e2
          obtain ⟨v, h3, h4⟩ := r.get q
          rw [h3] at e1
          cases e1
          exact ⟨v, rfl, h4⟩
      · rw [List.getElem?_append_right (by rw [List.length_map, ← el]; omega), List.getElem?_replicate] at e2
        split at e2 <;> cases e2
        exact True.intro
/-- the promise of a classmethod; n: without cls -/
def spC (K : PySem.W.Frag) (C : Addr) (n : Nat) (f : Fn) : SpN := fun vs H Q => vs.length = n + 1 ∧ ∃ P F us ds pt d pt', vs = .ref C :: us ∧ HR P F H F H pt ∧ DRs K P F us ds ∧ f ds pt = some (d, pt') ∧ ∀ v F' H', HR P F H F' H' pt' → DR K P F' v d → Q v H'
def fnC (n : Nat) (b : S → Option Fl) : Fn := fun ds pt => match b (atI n ds pt) with
  | some (.rt d pt') => some (d, pt')
  | some (.nx s) => some (.non, s.pot)
  | none => none
/-- .. of a def that hands out a new object -/
def spNw (K : PySem.W.Frag) (n : Nat) (f : Fn) : SpN := fun vs H Q => vs.length = n ∧ ∃ P F ds pt d pt', HR P F H F H pt ∧ DRs K P F vs ds ∧ f ds pt = some (d, pt') ∧ ∀ a F' H', HR P F H F' H' pt' → F' a = none → P ≠ some a → H a = none → OwR K P F' H' a d → Q (.ref a) H'
/-- a body that ends by such an object -/
def tR (K : PySem.W.Frag) (P : Option Addr) (F0 H0 : Hp) (b : S → Option (D × Pt)) : TS := fun D σ H => ∃ F s d pt, SR K P F0 H0 F σ H s ∧ b s = some (d, pt) ∧ ∀ a F' H', HR P F0 H0 F' H' pt → F' a = none → P ≠ some a → H0 a = none → OwR K P F' H' a d → D.rt (.ref a) H'
def fnR (n : Nat) (b : S → Option (D × Pt)) : Fn := fun ds pt => b (atD n ds pt)
section
variable {X : Cx} {P : Option Addr} {F0 H0 : Hp} {pos : Pos}
def qSeq (g : S → Option Fl) (b : S → Option (D × Pt)) : S → Option (D × Pt) := fun s => match g s with
  | some (.nx s1) => b s1
  | _ => none
theorem q_cons {st : Stmt} {rest : List Stmt} {g : S → Option Fl} {b : S → Option (D × Pt)} (h1 : PS X st (tS X.K P F0 H0 g)) (h2 : PSs X rest (tR X.K P F0 H0 b)) : PSs X (st :: rest) (tR X.K P F0 H0 (qSeq g b)) := by
  refine PSs.con (pss_cons h1 h2) fun D σ H ⟨F, s, d, pt, w, e, q⟩ => ?_
  unfold qSeq at e
  split at e
  · rename_i s1 e1
    exact ⟨F, s, .nx s1, w, e1, fun σ1 F1 H1 f1 w1 => ⟨F1, s1, d, pt, w1, e, q⟩⟩
  · cases e
def qRet (f : Sem1 D) : S → Option (D × Pt) := fun s => match f s with
  | some (d, s1) => some (d, s1.pot)
  | none => none
theorem q_ret {e : Expr} {f : Sem1 D} (he : PE X e (tN X.K P F0 H0 f)) : PSs X [.Return (some e) pos] (tR X.K P F0 H0 (qRet f)) := by
  refine PSs.con (pss_one (ps_ret he)) fun D σ H ⟨F, s, d, pt, w, e, q⟩ => ?_
  unfold qRet at e
  split at e
  · rename_i d1 s1 e1
    cases e
    exact ⟨F, s, _, s1, w, e1, fun a F' H' x w' na fa pa ha no ow => q a F' H' w'.hr fa pa ha ow⟩
  · cases e
end
section
variable {P : Program} {w : World} {K : PySem.W.Frag} {mg : Str → Option Value} {base : Heap} {x qual : Str} {params : Arguments} {body : List Stmt} {scope : Scope} {dvs : List VV} {kws : List (Str × VV)} {f : Addr} {fd : FuncData} {N ps : List Str} {g : Bool} {k : Nat}
theorem pre_len {N ps : List Str} {sc : Scope} (Sc : FnScope N ps sc) : ps.length ≤ N.length := by
  have := congrArg List.length Sc.pre
  rw [List.length_take] at this
  omega
theorem cls_of {b : S → Option Fl} {C : Addr} {c0 : Str} (F : FunD K x qual params body scope dvs kws f fd) (Sc : FnScope N (c0 :: ps) scope) 
    (hbody : ∀ (cdv : Value) (A : Around) (outer : List Env) (s : Shared) (H : Hp), RmG g k (A.deeper (envOfC qual scope s.heap.objs.size f cdv)) → ∀ (P0 : Option Addr) (F0 H0 : Hp),
      PSs (cxOf CX0 P w K mg base N qual scope f cdv A outer s H fun _ _ _ => False).nox body (tS K P0 F0 H0 b)) : FnG g P w K mg base (k + 1) f fd (c0 :: ps) (spC K C ps.length (fnC N.length b)) := by
  refine def_run F Sc (fun vs H Q h => h.1) fun cdv A outer s H vs Q hr ⟨hl, P0, F0, us, ds, pt, d, pt', ev, h0, r, e, q⟩ => ⟨_, hbody cdv A outer s H hr P0 F0 H, ?_⟩
  have hpl := pre_len Sc
  subst ev
  have hul : us.length + 1 ≤ N.length := by
    have : us.length + 1 = ps.length + 1 := hl
    have : ps.length + 1 ≤ N.length := hpl
    omega
  unfold fnC at e
  split at e
  · rename_i d1 pt1 e1
    cases e
    exact ⟨F0, _, _, sr_start1 h0 r hul, e1, fun v F' H' h2 d2 => q v F' H' h2 d2⟩
  · rename_i s1 e1
    cases e
    exact ⟨F0, _, _, sr_start1 h0 r hul, e1, fun σ' F' H' f2 w2 => q .non F' H' w2.hr .non⟩
  · cases e
theorem nw_of {b : S → Option (D × Pt)} (F : FunD K x qual params body scope dvs kws f fd) (Sc : FnScope N ps scope) 
    (hbody : ∀ (cdv : Value) (A : Around) (outer : List Env) (s : Shared) (H : Hp), RmG g k (A.deeper (envOfC qual scope s.heap.objs.size f cdv)) → ∀ (P0 : Option Addr) (F0 H0 : Hp),
      PSs (cxOf CX0 P w K mg base N qual scope f cdv A outer s H fun _ _ _ => False).nox body (tR K P0 F0 H0 b)) : FnG g P w K mg base (k + 1) f fd ps (spNw K ps.length (fnR N.length b)) := by
  refine def_run F Sc (fun vs H Q h => h.1) fun cdv A outer s H vs Q hr ⟨hl, P0, F0, ds, pt, d, pt', h0, r, e, q⟩ => ⟨_, hbody cdv A outer s H hr P0 F0 H, ?_⟩
  have hpl := pre_len Sc
  exact ⟨F0, _, d, pt', sr_start h0 r (by omega), e, fun a F' H' h2 fa pa ha ow => q a F' H' h2 fa pa ha ow⟩
end
/-! ### calls of these -/
section
variable {X : Cx} {P : Option Addr} {F0 H0 : Hp} {pos : Pos} {g : Bool} {k : Nat} {f C : Addr} {fd : FuncData} {ps : List Str} {c : Fn} {es : List Expr} {kws : List Keyword} {n m : Nat} {ks : List Str} {is : List Nat} {ds0 : List Value} {dv : List VV} {dd : List D} {x : Str} {p : Pos} {fa : Sem1 (List D)}
/-- a call that hands out a new object -/
theorem n_fn (F : FnG g X.prog X.w X.K X.mg X.base k f fd ps (spNw X.K m c)) (hr : RmG g k X.A) (hm : X.mg x = some (.ref f)) (hk : PySem.W.keepIn X.K (.ref f) = true) (hb : BK X.K fd ps n ks is ds0) (hd : Vals dv ds0) (cd : Cst X.K dv dd)
    (ha : PC X P F0 H0 pos es kws n ks fa) (hi : ((is.all fun i => decide (i < n + (ks.length + dd.length))) && is.length == m) = true := by decide) (hg : Gl X x := by rfl) (hdb : (x == ("__debug__" : Str)) = false := by decide) :
    PE X (.Call (.Name x p) es kws pos) (tN X.K P F0 H0 (eCall c is dd fa)) := by
  refine ⟨fun pins s σ H Q I ⟨F1, st, d, st', w, e, q⟩ => ?_⟩
  unfold eCall at e
  split at e
  · rename_i ds s1 e1
    split at e
    · rename_i d1 pt e2
      cases e
      rw [Bool.and_eq_true, List.all_eq_true, beq_iff_eq] at hi
      refine wpAny_Call_Name_kw (ld_glob I hg hm ?_ hdb)
      refine ha pins s σ H (.ref f) [] (EP X pins σ Q) F1 st ds s1 I hk w e1 fun us ws vs zs s' F' H' h1 h2 I' r1 r2 x1 w1 r => ?_
      obtain ⟨a1, a2⟩ := args_ok (n := 0) (m := 0) (ks := ks) (is := is) r1 r2 hd cd r
      have hl : (pick is (vs ++ (zs ++ dv))).length = m := by
        rw [pick_len (is := is) fun i hi' => ?_]
        · exact hi.2
        · have := of_decide_eq_true (hi.1 i hi')
          rw [List.length_append, List.length_append, r1.length, r2.length, h1, h2, (cd P F').length]
          exact this
      refine F.go hr I' (hb.to s' us ws I'.kIn h1 h2) a1 ⟨hl, P, F', _, s1.pot, d, pt, w1.hr.refl, a2, e2, fun a F2 H2 h3 fa pa ha ow => ?_⟩
      have hH : H a = none := by
        cases z : H a with
        | none => rfl
        | some o =>
          rcases x1.hh a o z with z2 | z2
          · exact absurd z2 pa
          · rw [ha] at z2
            cases z2
      exact q a F2 H2 (x1.trans h3.ex) (w1.call h3) hH fa pa (w1.hr.free ha).1 (w1.noOw ha) ow
    · cases e
  · cases e
/-- what a call of a classmethod writes -/
def PCm (X : Cx) (P : Option Addr) (F0 H0 : Hp) (pos : Pos) (es : List Expr) (kws : List Keyword) (n : Nat) (ks : List Str) (f : Sem1 (List D)) : Prop :=
  ∀ (pins : List (Addr × Obj)) (s : Shared) (σ : St) (H : Hp) (q gf : Addr) (C : Addr) (Q : Value → Shared → Prop) (F : Hp) (st : S) (ds : List D) (st' : S), Inv X ((q, PySem.W.methodObj (.ref gf) (.ref C)) :: pins) σ H s → X.base.get? q = none → PySem.W.fnIn X.K gf = true → SR X.K P F0 H0 F σ H st → f st = some (ds, st') →
    (∀ us ws vs zs s' F' H', us.length = n → ws.length = ks.length → Inv X ((q, PySem.W.methodObj (.ref gf) (.ref C)) :: pins) σ H' s' → Vals vs us → Vals zs ws → Ex P σ F H st F' H' st' → SR X.K P F0 H0 F' σ H' st' → DRs X.K P F' (vs ++ zs) ds → wpAny (model X.prog X.w) X.A (call (.ref q) us (ks.zip ws)) Q X.xe s') →
    wpAny (model X.prog X.w) X.A (callWith pos (.ref q) [] (backTo pos (starEach es X.env)) (backToKw pos (keywordEach kws X.env))) Q X.xe s
theorem wc_p {e : Expr} {es : List Expr} {n : Nat} {f : Sem1 (List D)} (h : PAn X P F0 H0 (e :: es) n f) (he : starEach (e :: es) X.env = (false, eval e X.env) :: starEach es X.env := by rfl) (hpl : (backTo pos (starEach es X.env)).any (·.1) = false := by rfl) : PCm X P F0 H0 pos (e :: es) [] n [] f := by
  intro pins s σ H q gf C Q F st ds st' I hb hf w e1 k
  exact ClX.callwith_cm I hb hf (thn (h.go I w e1 pos) fun us s1 ⟨vs, H1, I1, r1, l1, F', w', r, x⟩ => ⟨⟨ClX.pin_at I1, I1.kIn⟩, k us [] vs [] s1 F' H1 l1 rfl I1 r1 .nil x w' (by rw [List.append_nil]; exact r)⟩) he hpl
theorem wc_k {kw : Keyword} {kws : List Keyword} {n : Nat} {ks : List Str} {f : Sem1 (List D)} (h : PKn X P F0 H0 (kw :: kws) n f) (hn : ks.length = n) (hall : (backToKw pos (keywordEach (kw :: kws) X.env)).all (·.1.isSome) = true := by rfl) (hks : (backToKw pos (keywordEach (kw :: kws) X.env)).filterMap (·.1) = ks := by rfl)
    (hpl : ((backTo pos (starEach [] X.env)).any (·.1) || (backToKw pos (keywordEach (kw :: kws) X.env)).any (·.1.isNone)) = false := by rfl) : PCm X P F0 H0 pos [] (kw :: kws) 0 ks f := by
  intro pins s σ H q gf C Q F st ds st' I hb hf w e1 k
  refine PySem.W.callWith_of hpl (PySem.W.keeps_M (K := X.K) (self := .ref C) hf) (PyProof.Rows.evalArgs_kw2_nil hall (thn (h.go I w e1 pos) fun ws s1 ⟨zs, H1, I1, r1, l1, F', w', r, x⟩ => ⟨⟨ClX.pin_at I1, I1.kIn⟩, ?_⟩))
  rw [hks]
  exact k [] ws [] zs s1 F' H1 rfl (l1.trans hn.symm) I1 .nil r1 x w' r
/-- C.m(..) -/
theorem v_cmeth {pl : Sem Bool} {y mt : Str} {p1 apos : Pos} {pc : Addr} {mc : Value} (hy : X.mg y = some (.ref C)) (gy : Gl X y) (rd : ClX.CRead X.K C mc) (cm : ClX.CMet X.K C mc mt pc f) (F : FnG g X.prog X.w X.K X.mg X.base k f fd ps (spC X.K C m c)) (hr : RmG g k X.A) (hb : BK X.K fd ps (n + 1) ks (0 :: is.map (· + 1)) ds0) (hd : Vals dv ds0) (cd : Cst X.K dv dd)
    (ha : PCm X P F0 H0 pos es kws n ks fa) (hi : ((is.all fun i => decide (i < n + (ks.length + dd.length))) && is.length == m) = true := by decide) (hdb : (y == ("__debug__" : Str)) = false := by decide)
    (ht : eval (.Call (.Attribute (.Name y p1) mt apos) es kws pos) X.env = (do
      let ov ← eval (.Name y p1) X.env
      standAt apos.atName
      let (f, first) ← holding [ov] (getMethod ov mt pl)
      callWith pos f first (backTo pos (starEach es X.env)) (backToKw pos (keywordEach kws X.env))) := by rfl) :
    PE X (.Call (.Attribute (.Name y p1) mt apos) es kws pos) (tV X.K P F0 H0 (eCall c is dd fa)) := by
  refine ⟨fun pins s σ H Q I ⟨F1, st, d, st', w, e, q⟩ => ?_⟩
  unfold eCall at e
  split at e
  · rename_i ds s1 e1
    split at e
    · rename_i d1 pt e2
      cases e
      rw [Bool.and_eq_true, List.all_eq_true, beq_iff_eq] at hi
      refine PySem.W.methodCall_KW (pl := pl) (ld_glob I gy hy ?_ hdb) ht
      refine ClX.getmethcm_ok I rd cm fun s2 I2 => ?_
      refine ha pins s2 σ H s.heap.objs.size f C (EP X pins σ Q) F1 st ds s1 I2 (ClX.base_none I (Nat.le_refl _)) cm.fi w e1 fun us ws vs zs s' F' H' h1 h2 I' r1 r2 x1 w1 r => ?_
      obtain ⟨a1, a2⟩ := args_ok (n := 0) (m := 0) (ks := ks) (is := is) r1 r2 hd cd r
      have hl : (pick is (vs ++ (zs ++ dv))).length = m := by
        rw [pick_len (is := is) fun i hi' => ?_]
        · exact hi.2
        · have := of_decide_eq_true (hi.1 i hi')
          rw [List.length_append, List.length_append, r1.length, r2.length, h1, h2, (cd P F').length]
          exact this
      have I0 := ClX.unpin I'
      have bind := hb.to s' (Value.ref C :: us) ws I'.kIn (congrArg Nat.succ h1) h2
      have e5 : pick (0 :: is.map (· + 1)) (Value.ref C :: us ++ (ws ++ ds0)) = Value.ref C :: pick is (us ++ (ws ++ ds0)) := by
        unfold pick
        rw [List.filterMap_cons]
        show Value.ref C :: _ = _
        rw [List.filterMap_map]
        rfl
      rw [e5] at bind
      refine wpAny_call (PySem.W.method_call (ClX.pin_at I') ?_)
      have run := F.run X.A X.stack s' H' ⟨Value.ref C :: us, ks.zip ws⟩ (Value.ref C :: pick is (us ++ (ws ++ ds0))) (V.ref C :: pick is (vs ++ (zs ++ dv))) Q hr I0.env0 bind (.cons rfl a1) ⟨congrArg Nat.succ hl, P, F', _, _, s1.pot, d, pt, rfl, w1.hr.refl, a2, e2, fun v F2 H2 h3 d3 => q v F2 H2 (x1.trans h3.ex) (w1.call h3) d3⟩
      refine codeAny_mono run fun r s'' hq => ?_
      have := back_of (R := EP X pins σ Q) (E := X.xe) I0 hq fun u z => z
      cases r with
      | error e => exact this
      | ok fl =>
        cases fl with
        | ret u => exact this
        | next => exact False.elim this
        | brk => exact False.elim this
        | cont => exact False.elim this
    · cases e
  · cases e
end
end VS
end
section
set_option Elab.async false
set_option linter.all false
set_option maxRecDepth 100000
set_option maxHeartbeats 4000000
namespace VS
open PySem PySem.Spec PyProof.Rows L2
/-- what law promises: a script of at most N ints in, True out -/
def spLaw (K : PySem.W.Frag) (N : Nat) : SpN := fun vs H Q => ∃ (a : Addr) (ns : List Int), vs = [.ref a] ∧ SqF K H a (ns.map V.int) ∧ ns.length ≤ N ∧ ∀ H', Q (.bl true) H'
section
variable {P : Program} {w : World} {K : PySem.W.Frag} {mg mb : Str → Option Value} {k N : Nat} {fa a : Addr} {fd : FuncData} {x : Str} {s : Shared} {us : List Value} {ns : List Int}
/-- a heap in which at most the script is tracked -/
structure Scr (K : PySem.W.Frag) (a : Addr) (ns : List Int) (H : Hp) : Prop where
  sq : SqF K H a (ns.map V.int)
  at_ : ∀ b, H b ≠ none → b = a
  frz : ∀ u, H a = some u → ∃ o xs, u = .frz o (.lst xs)
  kn : H a ≠ none → K.lookup a = none
theorem law_core {H : Hp} (S : Scr K a ns H) (hok : HOk P w H s.heap) (KX : K.In s.heap) (n1 : s.heap.Ns mainGlobals mg) (n2 : s.heap.Ns builtinsNs mb) (hbb : ∀ x : Str, x ≠ "__name__" → mb x = bootBuiltins x) (hlim : s.heap.NoLimit) (hg : s.gens = #[])
    (ha : s.heap.get? a = some { cls := .type "list", data := .seq us.toArray }) (hr : RmG true k callerA) (hN : ns.length ≤ N)
    (F : ∀ base : Heap, K.In base → base.Ns mainGlobals mg → FnG true P w K mg base k fa fd [x] (spLaw K N)) (hbind : ∀ (s : Shared) (u : Value), BindsTo s fd ⟨[u], []⟩ [(x, u)]) :
    codeAny (model P w) callerA (.call (.ref fa) ⟨[.ref a], []⟩) (fun r s' => r = .ok (.ret (.bool true)) ∧ OldK s.heap s'.heap ∧ s'.os = s.os ∧ AllBare s'.gens) s := by
  have free : ∀ {b : Addr} {o : Obj}, s.heap.get? b = some o → (b = a → H a = none) → (hidT s.heap H).get? b = some o := fun {b o} e h => hidT_get e (by
    cases q : H b with
    | none => rfl
    | some u =>
      have := S.at_ b (by rw [q]; exact fun z => nomatch z)
      subst this
      rw [h rfl] at q
      cases q)
  have nsF : ∀ {b : Addr} {m : Str → Option Value}, s.heap.Ns b m → (hidT s.heap H).Ns b m := fun {b m} ⟨o, es, ep, e, d, r⟩ => ⟨o, es, ep, free e (fun z => by
    subst z
    rw [ha] at e
    cases e
    cases d), d, r⟩
  have kin : K.In (hidT s.heap H) := fun b o e => free (KX b o e) fun z => by
    subst z
    cases q : H b with
    | none => rfl
    | some u =>
      rw [S.kn (by rw [q]; exact fun z => nomatch z)] at e
      cases e
  have md : Mod K mg (hidT s.heap H) := ⟨kin, nsF n1, ⟨mb, nsF n2, hbb⟩, hlim.elim fun mc h => ⟨mc, nsF h.1, h.2⟩⟩
  have e0 : Env0 P w K mg (hidT s.heap H) callerA [] s H := ⟨rfl, md, fun _ _ e => of_hidT e, Nat.le_of_eq (hidT_size _ _), trivial, (fun b z => by cases z), hok, AllBare.of_eq hg⟩
  have run := (F _ kin (nsF n1)).run callerA [] s H ⟨[.ref a], []⟩ [.ref a] [.ref a] (fun v _ => v = .bl true) hr e0 (hbind s _) (.cons rfl .nil) ⟨a, ns, rfl, S.sq, hN, fun _ => rfl⟩
  refine codeAny_mono run fun r s' h => ?_
  cases r with
  | error e => exact (show False from h).elim
  | ok fl =>
    cases fl with
    | ret u =>
      obtain ⟨v, H', os, bare, un, hok', rv, q⟩ := h
      cases q
      cases rv
      refine ⟨rfl, OldK.of_keep fun b o e => ?_, os, bare⟩
      cases q : H b with
      | none => exact un.keep b o e q (by intro z; cases z) (by intro z; cases z)
      | some u =>
        have hb := S.at_ b (by rw [q]; exact fun z => nomatch z)
        subst hb
        obtain ⟨ob, xs, rfl⟩ := S.frz u q
        have g1 := (hok _ _ q).1
        have g2 := (hok' _ _ (un.frzs _ _ _ q)).1
        rw [e] at g1
        cases g1
        exact g2
    | next => exact (show False from h).elim
    | brk => exact (show False from h).elim
    | cont => exact (show False from h).elim
theorem law_run (KX : K.In s.heap) (n1 : s.heap.Ns mainGlobals mg) (n2 : s.heap.Ns builtinsNs mb) (hbb : ∀ x : Str, x ≠ "__name__" → mb x = bootBuiltins x) (hlim : s.heap.NoLimit) (hg : s.gens = #[])
    (ha : s.heap.get? a = some { cls := .type "list", data := .seq us.toArray }) (hi : IntsAre us ns) (hz : ns.length ≤ sizeLine) (hr : RmG true k callerA) (hN : ns.length ≤ N)
    (F : ∀ base : Heap, K.In base → base.Ns mainGlobals mg → FnG true P w K mg base k fa fd [x] (spLaw K N)) (hbind : ∀ (s : Shared) (u : Value), BindsTo s fd ⟨[u], []⟩ [(x, u)]) :
    codeAny (model P w) callerA (.call (.ref fa) ⟨[.ref a], []⟩) (fun r s' => r = .ok (.ret (.bool true)) ∧ OldK s.heap s'.heap ∧ s'.os = s.os ∧ AllBare s'.gens) s := by
  have rv := vals_ints hi
  cases hk : K.lookup a with
  | some o =>
    have e := KX a o hk
    rw [ha] at e
    cases e
    refine law_core (H := fun _ => none) ⟨.inr ⟨_, us.toArray, _, hk, rfl, rfl, rfl, by rw [List.size_toArray, hi.length]; exact hz, by simpa using rv⟩, fun b z => absurd rfl z, (fun u z => by cases z), fun z => absurd rfl z⟩ (fun b u z => by cases z) KX n1 n2 hbb hlim hg ha hr hN F hbind
  | none =>
    refine law_core (H := L2.upd (fun _ => none) a (.frz { cls := .type "list", data := .seq us.toArray } (.lst (ns.map V.int)))) ⟨.inl ⟨_, upd_same⟩, fun b z => ?_, (fun u z => ?_), fun _ => hk⟩ (fun b u z => ?_) KX n1 n2 hbb hlim hg ha hr hN F hbind
    · by_cases hb : b = a
      · exact hb
      · rw [upd_ne hb] at z
        exact absurd rfl z
    · rw [upd_same] at z
      cases z
      exact ⟨_, _, rfl⟩
    · by_cases hb : b = a
      · subst hb
        rw [upd_same] at z
        cases z
        exact ⟨ha, by rw [List.length_map]; exact hz, us, _, rv, ha⟩
      · rw [upd_ne hb] at z
        cases z
end
/-- the goal that the head leaves -/
theorem walk_vs {l : PySem.W.OpenLaw} {n k : Nat} {q : Program} {loose : List Str} {XP : (Str → Option Value) → Heap → Prop} {YP : World → Heap → Prop} {d : DefRec} {K : Params → PySem.W.Frag} {x : Str}
    (hn : l.most = some n) (hz : n ≤ sizeLine) (hdf : d.params.defaults = []) (hr : RmG true k callerA) (hY : ∀ (w : World) (h : Heap), YP w h → (K w.params).In h)
    (F : ∀ (w : World) (mg : Str → Option Value) (fa : Addr) (h : Heap), (K w.params).In h → h.Ns mainGlobals mg → mg d.name = some (.ref fa) → ∃ fd : FuncData, (∀ (s : Shared) (u : Value), BindsTo s fd ⟨[u], []⟩ [(x, u)]) ∧
      ∀ base : Heap, (K w.params).In base → base.Ns mainGlobals mg → FnG true l.prog w (K w.params) mg base k fa fd [x] (spLaw (K w.params) n)) :
    PySem.W.WalkO q loose XP YP l.row.toRowW d [] (fun f vs => PySem.call f vs) := by
  refine Att.attach_call hn hdf fun w s₀ s₁ mg mb fa o pm cd doc a vs ns G Y ho hd hcd hmg hobj hints hlen hg => ?_
  obtain ⟨fd, hb, hF⟩ := F w mg fa _ (hY w _ Y) G.T.g hmg
  exact law_run (hY w _ Y) G.T.g G.T.b G.T.builtins G.T.nolimit hg hobj hints (Nat.le_trans hlen hz) hr hlen hF hb
/-! ### the body of law: the pot -/
section
variable {X : Cx} {pos : Pos}
mutual
theorem DR.toP {K : PySem.W.Frag} {F : Hp} (P : Option Addr) : ∀ {v : VV} {d : D}, DR K none F v d → DR K P F v d
  | _, _, .non => .non
  | _, _, .bl b => .bl b
  | _, _, .int i => .int i
  | _, _, .str z => .str z
  | _, _, .scr h => .scr h
  | _, _, .lst h r => .lst h (DRs.toP P r)
  | _, _, .tup h r => .tup h (DRs.toP P r)
  | _, _, .ins h e r => .ins h e (DRs.toP P r)
theorem DRs.toP {K : PySem.W.Frag} {F : Hp} (P : Option Addr) : ∀ {vs : List VV} {ds : List D}, DRs K none F vs ds → DRs K P F vs ds
  | _, _, .nil => .nil
  | _, _, .cons h t => .cons (DR.toP P h) (DRs.toP P t)
end
def noOw (l : List Sl) : Bool := l.all fun s => match s with
  | .ow _ => false
  | _ => true
theorem noOw_at {l : List Sl} (h : noOw l = true) {i : Nat} {d : D} : l[i]? ≠ some (.ow d) := fun e => by
  have := List.all_eq_true.mp h _ (List.mem_of_getElem? e)
  cases this
/-- x = e, e two new ints in a list: from here on it is the pot -/
def tPot (K : PySem.W.Frag) (i : Nat) (f : Sem1 D) (b : S → Option Fl) : TS := fun D σ H => ∃ F s x y s' pt, SR K none F H F σ H s ∧ f s = some (.lst [.int x, .int y], s') ∧ noOw s'.sl = true ∧ b ⟨s'.sl.set i (.sh .pot), some (x, y)⟩ = some (.rt (.bl true) pt) ∧ ∀ H', D.rt (.bl true) H'
theorem s_pot (i : Nat) {x : Str} {e : Expr} {rest : List Stmt} {f : Sem1 D} {b : S → Option Fl} {pos' : Pos} (hN : X.N.Nodup) (he : ∀ F0 H0, PE X e (tN X.K none F0 H0 f)) (hrest : ∀ (P : Option Addr) (F0 H0 : Hp), PSs X rest (tS X.K P F0 H0 b)) (hi : X.N[i]? = some x := by rfl) (hx : Loc X.env.scope x := by first | exact .inl rfl | exact .inr rfl)
    (hs : swapsWith e (some (.Name x pos')) pos.line X.env = pure false := by rfl) (hf : X.fn x = true ∨ X.env.scope.names.lookup x = some .local := by first | exact .inl rfl | exact .inr rfl) : PSs X (.Assign [.Name x pos'] e pos :: rest) (tPot X.K i f b) := by
  refine ⟨fun pins s σ H D I ⟨F, st, x0, y0, s', pt, w, e1, no, e2, q⟩ => ?_⟩
  refine (pss_cons (ps_set hN hi hx (he F H) hs hf) ⟨fun pins' s2 σ2 H2 D2 I2 (h : ∃ P F0 H0, tS X.K P F0 H0 b D2 σ2 H2) => ?_⟩).run pins s σ H D I ⟨F, st, _, s', w, e1, fun a F' H' x' w' na fa pa ha nw ow => ⟨some a, F', H', F', _, _, ?_, e2, fun v F2 H2 h2 d2 => ?_⟩⟩
  · obtain ⟨P, F0, H0, h⟩ := h
    exact (hrest P F0 H0).run pins' s2 σ2 H2 D2 I2 h
  · obtain ⟨vs, hv, rv⟩ := ow
    cases rv with
    | cons h1 t1 => cases t1 with
      | cons h2 t2 =>
        cases t2
        cases h1
        cases h2
        have base : SR X.K (some a) F' H' F' σ H' ⟨s'.sl, some (x0, y0)⟩ := by
          refine ⟨⟨.refl w'.hr.sub, fun x y z => ?_, fun p z => ⟨x0, y0, rfl⟩⟩, w'.len, fun j o l z1 z2 => ?_, fun i j c d d' _ z => absurd z (noOw_at no), fun i c d _ z => absurd z (noOw_at no)⟩
          · cases z
            exact ⟨a, rfl, fa, hv⟩
          · have q := w'.sl j o l z1 z2
            cases l with
            | un => exact True.intro
            | sh d =>
              obtain ⟨v, ev, r⟩ := q
              exact ⟨v, ev, r.toP _⟩
            | ow d => exact absurd z2 (noOw_at no)
        exact base.put (.pot rfl)
  · cases d2
    exact q H2
/-- return f(e), e two new ints in a list -/
def tPotR (K : PySem.W.Frag) (c : Fn) (f : Sem1 D) : TS := fun D σ H => ∃ F s x y s' pt, SR K none F H F σ H s ∧ f s = some (.lst [.int x, .int y], s') ∧ c [.pot] (some (x, y)) = some (.bl true, pt) ∧ ∀ H', D.rt (.bl true) H'
theorem s_potR {g : Bool} {k : Nat} {fn : Addr} {fd : FuncData} {ps : List Str} {c : Fn} {y : Str} {p p2 : Pos} {e : Expr} {f : Sem1 D} (F : FnG g X.prog X.w X.K X.mg X.base k fn fd ps (spF X.K 1 c)) (hr : RmG g k X.A) (hm : X.mg y = some (.ref fn)) (hk : PySem.W.keepIn X.K (.ref fn) = true) (hb : BK X.K fd ps 1 [] [0] [])
    (he : ∀ F0 H0, PE X e (tN X.K none F0 H0 f)) (hg : Gl X y := by rfl) (hdb : (y == ("__debug__" : Str)) = false := by decide) (hst : starEach [e] X.env = (false, eval e X.env) :: starEach [] X.env := by rfl) : PSs X [.Return (some (.Call (.Name y p) [e] [] p2)) pos] (tPotR X.K c f) := by
  have call : PE X (.Call (.Name y p) [e] [] p2) (fun σ H Q => ∃ F s x y s' pt, SR X.K none F H F σ H s ∧ f s = some (.lst [.int x, .int y], s') ∧ c [.pot] (some (x, y)) = some (.bl true, pt) ∧ ∀ H', Q (.bl true) H') := by
    refine ⟨fun pins s σ H Q I ⟨F1, st, x0, y0, s', pt, w, e1, e2, q⟩ => ?_⟩
    refine wpAny_Call_Name_kw (ld_glob I hg hm ?_ hdb)
    refine PySem.W.callWith_K (h₀ := X.base) I.ok.mod.kin hk (thn ((pa_cons (he F1 H) pa_nil hst).run p2 pins s σ H (fun vs H1 => ∃ a F', vs = [.ref a] ∧ SR X.K none F1 H F' σ H1 s' ∧ F' a = none ∧ OwR X.K none F' H1 a (.lst [.int x0, .int y0])) I ⟨F1, st, _, s', w, e1, fun a F' H' x' w' na fa pa ha nw ow => ⟨a, F', rfl, w', fa, ow⟩⟩) fun us s1 ⟨vs, H1, I1, r1, a, F', ev, w', fa, ow⟩ => ⟨I1.kIn, ?_⟩) hst rfl
    subst ev
    obtain ⟨u, rfl, ru⟩ := vals1 r1
    cases ru
    obtain ⟨vs, hv, rv⟩ := ow
    cases rv with
    | cons h1 t1 => cases t1 with
      | cons h2 t2 =>
        cases t2
        cases h1
        cases h2
        refine F.go hr I1 (hb := hb.to s1 [.ref a] [] I1.kIn rfl rfl) (show Vals [V.ref a] [Value.ref a] from .cons rfl .nil) ⟨rfl, some a, F', [.pot], some (x0, y0), _, pt, ⟨.refl w'.hr.sub, fun x y z => ?_, fun p z => ⟨x0, y0, rfl⟩⟩, .cons (.pot rfl) .nil, e2, fun v F2 H2 h2 d2 => ?_⟩
        · cases z
          exact ⟨a, rfl, fa, hv⟩
        · cases d2
          exact q H2
  exact PSs.con (pss_one (ps_ret call)) fun D σ H ⟨F, s, x, y, s', pt, w, e1, e2, q⟩ => ⟨F, s, x, y, s', pt, w, e1, e2, q⟩
end
section
variable {P : Program} {w : World} {K : PySem.W.Frag} {mg : Str → Option Value} {base : Heap} {x qual : Str} {params : Arguments} {body : List Stmt} {scope : Scope} {dvs : List VV} {kws : List (Str × VV)} {f : Addr} {fd : FuncData} {N ps : List Str} {g : Bool} {k M : Nat}
theorem law_of {i : Nat} {fe : Sem1 D} {b : S → Option Fl} {y : Str} (F : FunD K x qual params body scope dvs kws f fd) (Sc : FnScope N [y] scope)
    (hbody : ∀ (cdv : Value) (A : Around) (outer : List Env) (s : Shared) (H : Hp), RmG g k (A.deeper (envOfC qual scope s.heap.objs.size f cdv)) → PSs (cxOf CX0 P w K mg base N qual scope f cdv A outer s H fun _ _ _ => False).nox body (tPot K i fe b))
    (math : ∀ ns : List Int, ns.length ≤ M → ∃ x y s' pt, fe (atD N.length [.scr ns] none) = some (.lst [.int x, .int y], s') ∧ noOw s'.sl = true ∧ b ⟨s'.sl.set i (.sh .pot), some (x, y)⟩ = some (.rt (.bl true) pt)) : FnG g P w K mg base (k + 1) f fd [y] (spLaw K M) := by
  refine def_run F Sc (fun vs H Q ⟨a, ns, e, _⟩ => (by rw [e]; rfl)) fun cdv A outer s H vs Q hr ⟨a, ns, ev, sq, hl, q⟩ => ⟨_, hbody cdv A outer s H hr, ?_⟩
  subst ev
  have hpl := pre_len Sc
  obtain ⟨x, y, s', pt, e1, e2, e3⟩ := math ns hl
  exact ⟨H, _, x, y, s', pt, sr_start ⟨.refl (Same.refl _), (fun x y z => by cases z), (fun p z => by cases z)⟩ (.cons (.scr sq) .nil) hpl, e1, e2, e3, q⟩
theorem lawR_of {fe : Sem1 D} {c : Fn} {y : Str} (F : FunD K x qual params body scope dvs kws f fd) (Sc : FnScope N [y] scope)
    (hbody : ∀ (cdv : Value) (A : Around) (outer : List Env) (s : Shared) (H : Hp), RmG g k (A.deeper (envOfC qual scope s.heap.objs.size f cdv)) → PSs (cxOf CX0 P w K mg base N qual scope f cdv A outer s H fun _ _ _ => False).nox body (tPotR K c fe))
    (math : ∀ ns : List Int, ns.length ≤ M → ∃ x y s' pt, fe (atD N.length [.scr ns] none) = some (.lst [.int x, .int y], s') ∧ c [.pot] (some (x, y)) = some (.bl true, pt)) : FnG g P w K mg base (k + 1) f fd [y] (spLaw K M) := by
  refine def_run F Sc (fun vs H Q ⟨a, ns, e, _⟩ => (by rw [e]; rfl)) fun cdv A outer s H vs Q hr ⟨a, ns, ev, sq, hl, q⟩ => ⟨_, hbody cdv A outer s H hr, ?_⟩
  subst ev
  have hpl := pre_len Sc
  obtain ⟨x, y, s', pt, e1, e3⟩ := math ns hl
  exact ⟨H, _, x, y, s', pt, sr_start ⟨.refl (Same.refl _), (fun x y z => by cases z), (fun p z => by cases z)⟩ (.cons (.scr sq) .nil) hpl, e1, e3, q⟩
end
end VS
end
section
set_option Elab.async false
set_option linter.all false
set_option maxRecDepth 100000
set_option maxHeartbeats 4000000
namespace VS
open PySem PySem.Spec PyProof.Rows L2
section
variable {X : Cx} {P : Option Addr} {F0 H0 : Hp} {pos : Pos}
/-- pot[k], read -/
def ePot (i k : Nat) : Sem1 D := fun s => match s.sl[i]? with
  | some (.sh .pot) => match s.pot with
    | some (x, y) => match k with
      | 0 => some (.int x, s)
      | 1 => some (.int y, s)
      | _ => none
    | none => none
  | _ => none
theorem v_potix (i k : Nat) {x : Str} {j : Nat} {p1 p2 : Pos} (hN : X.N[i]? = some x := by rfl) (hv : Vis X.env.scope x := by first | exact Or.inl rfl | exact Or.inr (Or.inl rfl) | exact Or.inr (Or.inr rfl)) (hs : PlainIx (.Constant (.int k) j p2) := by exact fun _ _ => rfl) (hd : (x == ("__debug__" : Str)) = false := by decide) (hcd : (x == ("__classdict__" : Str)) = false := by decide) : PE X (.Subscript (.Name x p1) (.Constant (.int k) j p2) pos) (tV X.K P F0 H0 (ePot i k)) := by
  refine PE.con (pe_ix ix_seq (pe_var hN hv hd hcd) pe_int hs) fun σ H Q ⟨F, s, d, s', w, e, q⟩ => ?_
  unfold ePot at e
  split at e
  · rename_i es
    split at e
    · rename_i x y ep
      obtain ⟨o, eo, v, ev, dv⟩ := w.there es
      subst ev
      cases dv with
      | @pot p hp =>
        obtain ⟨p', e1, e2, e3⟩ := w.hr.pot x y ep
        rw [hp] at e1
        cases e1
        split at e
        · cases e
          exact ⟨.ref p, eo, .inl ⟨p, _, 0, .int x, rfl, rfl, .of e3, rfl, q _ F H .refl w (.int x)⟩⟩
        · cases e
          exact ⟨.ref p, eo, .inl ⟨p, _, 1, .int y, rfl, rfl, .of e3, rfl, q _ F H .refl w (.int y)⟩⟩
        · cases e
    · cases e
  · cases e
/-- a, b, c = x, y, [..]: the third is a list of this frame's own -/
def gPar3o (i j l : Nat) (f g h : Sem1 D) : S → Option Fl := fun s => match f s with
  | some (d, s1) => match g s1 with
    | some (e, s2) => match h s2 with
      | some (k, s3) => some (.nx { s3 with sl := ((s3.sl.set i (.sh d)).set j (.sh e)).set l (.ow k) })
      | none => none
    | none => none
  | none => none
theorem s_par3o (i j l : Nat) {x y z : Str} {a b c : Expr} {f g h : Sem1 D} {px py pz pt pos : Pos} {kt k2 pt2} (hc : X.calm = true) (hN : X.N.Nodup) (ha : PE X a (tV X.K P F0 H0 f)) (hb : PE X b (tV X.K P F0 H0 g)) (hcc : PE X c (tN X.K P F0 H0 h)) (hij : i ≠ j := by decide) (hil : i ≠ l := by decide) (hjl : j ≠ l := by decide)
    (hi : X.N[i]? = some x := by rfl) (hj : X.N[j]? = some y := by rfl) (hl : X.N[l]? = some z := by rfl) (hx : X.env.scope.names.lookup x = some .local := by rfl) (hy : X.env.scope.names.lookup y = some .local := by rfl) (hz : X.env.scope.names.lookup z = some .local := by rfl)
    (n1 : starEach [a, b, c] X.env = (false, eval a X.env) :: starEach [b, c] X.env := by rfl) (n2 : starEach [b, c] X.env = (false, eval b X.env) :: starEach [c] X.env := by rfl) (n3 : starEach [c] X.env = (false, eval c X.env) :: starEach [] X.env := by rfl)
    (hw : swappedStores [.Tuple [.Name x px, .Name y py, .Name z pz] kt pt] (.Tuple [a, b, c] k2 pt2) X.env = pure (some [x, y, z]) := by rfl)
    (hs : swapsWithSole [.Tuple [.Name x px, .Name y py, .Name z pz] kt pt] (.Tuple [a, b, c] k2 pt2) pos.line X.env = pure false := by rfl) : PS X (.Assign [.Tuple [.Name x px, .Name y py, .Name z pz] kt pt] (.Tuple [a, b, c] k2 pt2) pos) (tS X.K P F0 H0 (gPar3o i j l f g h)) := by
  refine PS.con (ps_par3 hc hN hi hj hl hij hil hjl hx hy hz (pa_cons ha (pa_cons hb (pa_cons hcc pa_nil n3) n2) n1) hw hs) fun D σ H ⟨F, s, r, w, e, q⟩ => ?_
  unfold gPar3o at e
  split at e
  · rename_i d s1 e1
    split at e
    · rename_i d2 s2 e2
      split at e
      · rename_i d3 s3 e3
        cases e
        refine ⟨F, s, d, s1, w, e1, fun v1 F1 H1 x1 w1 dv1 => ⟨F1, s1, d2, s2, w1, e2, fun v2 F2 H2 x2 w2 dv2 => ⟨F2, s2, d3, s3, w2, e3, fun a F3 H3 x3 w3 na fa pa ha no ow => ?_⟩⟩⟩
        refine ⟨v1, v2, .ref a, rfl, q _ F3 H3 ((x1.ff.trans x2.ff).trans x3.ff) ?_⟩
        have w4 := (w3.put (i := i) ((dv1.mono x2.ff).mono x3.ff)).put (i := j) (dv2.mono x3.ff)
        refine w4.own (i := l) fa pa ha (fun m d z z2 => ?_) ow
        have u1 := ow_set (fun d z => by cases z) z
        have u2 := ow_set (fun d z => by cases z) u1
        have nj : j ≠ m := fun hm => by
          subst hm
          have u1' : ((s3.sl.set i (.sh _)).set j (.sh _))[j]? = some (.ow d) := z
          have hlen : j < (s3.sl.set i (.sh d)).length := by rw [List.length_set]; exact (List.getElem?_eq_some_iff.mp u2).1
          rw [List.getElem?_set_self (by simpa using hlen)] at u1'
          cases u1'
        have ni : i ≠ m := fun hm => by
          subst hm
          have hlen : i < s3.sl.length := (List.getElem?_eq_some_iff.mp u2).1
          rw [List.getElem?_set_self hlen] at u1
          cases u1
        rw [List.getElem?_set_ne nj, List.getElem?_set_ne ni] at z2
        exact no m d u2 z2
      · cases e
    · cases e
  · cases e
end
end VS
end
section
set_option Elab.async false
set_option linter.all false
set_option maxRecDepth 100000
set_option maxHeartbeats 4000000
namespace VS
open PySem PySem.Spec PyProof.Rows L2
/-! ### isinstance: the common questions -/
def kInt (own : List Addr) : D → Option Bool
  | .int _ => some true
  | .bl _ => some true
  | .non => some false
  | .str _ => some false
  | .lst _ => some false
  | .tup _ => some false
  | .scr _ => some false
  | .ins C _ _ => if C ∈ own then some false else none
  | .pot => none
def kBool (own : List Addr) : D → Option Bool
  | .bl _ => some true
  | .int _ => some false
  | .non => some false
  | .str _ => some false
  | .lst _ => some false
  | .tup _ => some false
  | .scr _ => some false
  | .ins C _ _ => if C ∈ own then some false else none
  | .pot => none
def kSeq (own : List Addr) : D → Option Bool
  | .lst _ => some true
  | .tup _ => some true
  | .scr _ => some true
  | .int _ => some false
  | .bl _ => some false
  | .non => some false
  | .str _ => some false
  | .ins C _ _ => if C ∈ own then some false else none
  | .pot => none
def kCls (own : List Addr) (C : Addr) : D → Option Bool
  | .ins C' _ _ => if C' = C then some true else if C' ∈ own then some false else none
  | .lst _ => some false
  | .tup _ => some false
  | .scr _ => some false
  | .int _ => some false
  | .bl _ => some false
  | .non => some false
  | .str _ => some false
  | .pot => none
structure OwnC (K : PySem.W.Frag) (C : Addr) : Prop where
  is : IsC K C
  i : PySem.W.kitOne K (.ref C) (.type "int") = some false
  b : PySem.W.kitOne K (.ref C) (.type "bool") = some false
  l : PySem.W.kitOne K (.ref C) (.type "list") = some false
  t : PySem.W.kitOne K (.ref C) (.type "tuple") = some false
  me : PySem.W.kitOne K (.ref C) (.ref C) = some true
  fi : PySem.W.kitOne K (.type "int") (.ref C) = some false
  fb : PySem.W.kitOne K (.type "bool") (.ref C) = some false
  fl : PySem.W.kitOne K (.type "list") (.ref C) = some false
  ft : PySem.W.kitOne K (.type "tuple") (.ref C) = some false
  fs : PySem.W.kitOne K (.type "str") (.ref C) = some false
  fn : PySem.W.kitOne K (.type "NoneType") (.ref C) = some false
section
variable {K : PySem.W.Frag} {own : List Addr}
theorem ok_kInt (h : ∀ C ∈ own, OwnC K C) : IsiOk K (.type "int") (kInt own) := fun d b e => by
  cases d with
  | non => cases e; exact ⟨_, rfl, kit_ty (by decide +kernel), fun C z => nomatch z⟩
  | bl x => cases e; exact ⟨_, rfl, kit_ty (by decide +kernel), fun C z => nomatch z⟩
  | int x => cases e; exact ⟨_, rfl, kit_ty (by decide +kernel), fun C z => nomatch z⟩
  | str x => cases e; exact ⟨_, rfl, kit_ty (by decide +kernel), fun C z => nomatch z⟩
  | lst x => cases e; exact ⟨_, rfl, kit_ty (by decide +kernel), fun C z => nomatch z⟩
  | tup x => cases e; exact ⟨_, rfl, kit_ty (by decide +kernel), fun C z => nomatch z⟩
  | scr x => cases e; exact ⟨_, rfl, kit_ty (by decide +kernel), fun C z => nomatch z⟩
  | pot => cases e
  | ins C ns ds =>
    have e : (if C ∈ own then some false else none) = some b := e
    split at e
    · rename_i hc
      cases e
      exact ⟨_, rfl, (h C hc).i, fun C' z => by cases z; exact (h C hc).is⟩
    · cases e
theorem ok_kBool (h : ∀ C ∈ own, OwnC K C) : IsiOk K (.type "bool") (kBool own) := fun d b e => by
  cases d with
  | non => cases e; exact ⟨_, rfl, kit_ty (by decide +kernel), fun C z => nomatch z⟩
  | bl x => cases e; exact ⟨_, rfl, kit_ty (by decide +kernel), fun C z => nomatch z⟩
  | int x => cases e; exact ⟨_, rfl, kit_ty (by decide +kernel), fun C z => nomatch z⟩
  | str x => cases e; exact ⟨_, rfl, kit_ty (by decide +kernel), fun C z => nomatch z⟩
  | lst x => cases e; exact ⟨_, rfl, kit_ty (by decide +kernel), fun C z => nomatch z⟩
  | tup x => cases e; exact ⟨_, rfl, kit_ty (by decide +kernel), fun C z => nomatch z⟩
  | scr x => cases e; exact ⟨_, rfl, kit_ty (by decide +kernel), fun C z => nomatch z⟩
  | pot => cases e
  | ins C ns ds =>
    have e : (if C ∈ own then some false else none) = some b := e
    split at e
    · rename_i hc
      cases e
      exact ⟨_, rfl, (h C hc).b, fun C' z => by cases z; exact (h C hc).is⟩
    · cases e
theorem any2 {K : PySem.W.Frag} {t c1 c2 : Value} {x y : Bool} (h1 : PySem.W.kitOne K t c1 = some x) (h2 : PySem.W.kitOne K t c2 = some y) : PySem.W.kitAny K t [c1, c2] = some (x || y) := by
  cases x with
  | true => exact kitAny_cons h1 (fun z => nomatch z) (fun _ => rfl)
  | false => exact kitAny_cons h1 (fun _ => by
      cases y with
      | true => exact kitAny_cons h2 (fun z => nomatch z) (fun _ => rfl)
      | false => exact kitAny_cons h2 (fun _ => kitAny_nil) (fun z => nomatch z)) (fun z => nomatch z)
theorem ok_kSeq (h : ∀ C ∈ own, OwnC K C) : IsiOks K [.type "list", .type "tuple"] (kSeq own) := fun d b e => by
  cases d with
  | non => cases e; exact ⟨_, rfl, any2 (x := false) (y := false) (kit_ty (by decide +kernel)) (kit_ty (by decide +kernel)), fun C z => nomatch z⟩
  | bl x => cases e; exact ⟨_, rfl, any2 (x := false) (y := false) (kit_ty (by decide +kernel)) (kit_ty (by decide +kernel)), fun C z => nomatch z⟩
  | int x => cases e; exact ⟨_, rfl, any2 (x := false) (y := false) (kit_ty (by decide +kernel)) (kit_ty (by decide +kernel)), fun C z => nomatch z⟩
  | str x => cases e; exact ⟨_, rfl, any2 (x := false) (y := false) (kit_ty (by decide +kernel)) (kit_ty (by decide +kernel)), fun C z => nomatch z⟩
  | lst x => cases e; exact ⟨_, rfl, any2 (x := true) (y := false) (kit_ty (by decide +kernel)) (kit_ty (by decide +kernel)), fun C z => nomatch z⟩
  | tup x => cases e; exact ⟨_, rfl, any2 (x := false) (y := true) (kit_ty (by decide +kernel)) (kit_ty (by decide +kernel)), fun C z => nomatch z⟩
  | scr x => cases e; exact ⟨_, rfl, any2 (x := true) (y := false) (kit_ty (by decide +kernel)) (kit_ty (by decide +kernel)), fun C z => nomatch z⟩
  | pot => cases e
  | ins C ns ds =>
    have e : (if C ∈ own then some false else none) = some b := e
    split at e
    · rename_i hc
      cases e
      exact ⟨_, rfl, any2 (x := false) (y := false) (h C hc).l (h C hc).t, fun C' z => by cases z; exact (h C hc).is⟩
    · cases e
theorem ok_kCls {C : Addr} (h : ∀ C ∈ own, OwnC K C) (hc : C ∈ own) (ho : ∀ C' ∈ own, C' ≠ C → PySem.W.kitOne K (.ref C') (.ref C) = some false) : IsiOk K (.ref C) (kCls own C) := fun d b e => by
  have hC := h C hc
  cases d with
  | non => cases e; exact ⟨_, rfl, hC.fn, fun C z => nomatch z⟩
  | bl x => cases e; exact ⟨_, rfl, hC.fb, fun C z => nomatch z⟩
  | int x => cases e; exact ⟨_, rfl, hC.fi, fun C z => nomatch z⟩
  | str x => cases e; exact ⟨_, rfl, hC.fs, fun C z => nomatch z⟩
  | lst x => cases e; exact ⟨_, rfl, hC.fl, fun C z => nomatch z⟩
  | tup x => cases e; exact ⟨_, rfl, hC.ft, fun C z => nomatch z⟩
  | scr x => cases e; exact ⟨_, rfl, hC.fl, fun C z => nomatch z⟩
  | pot => cases e
  | ins C' ns ds =>
    have e : (if C' = C then some true else if C' ∈ own then some false else none) = some b := e
    split at e
    · rename_i h'
      cases e
      subst h'
      exact ⟨_, rfl, hC.me, fun C2 z => by cases z; exact hC.is⟩
    · rename_i h'
      split at e
      · rename_i h2
        cases e
        exact ⟨_, rfl, ho C' h2 h', fun C2 z => by cases z; exact (h C' h2).is⟩
      · cases e
end
section
variable {X : Cx} {P : Option Addr} {F0 H0 : Hp} {pos : Pos} {g : Bool} {n k : Nat} {oe : D → D → Option Bool}
theorem v_eqLT (ho : OE X g n oe) (hr : RmG g (n + k + 1) X.A) {a b : Expr} {f f' : Sem1 D} (ha : PE X a (tVB X.K P F0 H0 f)) (hb : PE X b (tVB X.K P F0 H0 f')) : PT X (.Compare a [.Eq] [b] pos) (tT X.K P F0 H0 (eT (e2 (gEqL false (dqT oe (k + 1))) f f'))) :=
  PT.con (pt_cmpR (op_eqD (P := P) (k := k) ho hr) ha hb (nomark _)) fun σ H Q h => tT_of (fun σ H Q h => tEqL σ H Q h) σ H Q h
theorem v_neLT (ho : OE X g n oe) (hr : RmG g (n + k + 1) X.A) {a b : Expr} {f f' : Sem1 D} (ha : PE X a (tVB X.K P F0 H0 f)) (hb : PE X b (tVB X.K P F0 H0 f')) : PT X (.Compare a [.NotEq] [b] pos) (tT X.K P F0 H0 (eT (e2 (gEqL true (dqT oe (k + 1))) f f'))) :=
  PT.con (pt_cmpR (op_neD (P := P) (k := k) ho hr) ha hb (nomark _)) fun σ H Q h => tT_of (fun σ H Q h => tEqL σ H Q h) σ H Q h
theorem cp_reprL : CallP X.K P (fun xs H Q => ∃ F pt x d c, xs = [x] ∧ HR P F H F H pt ∧ DR X.K P F x d ∧ gReprL d = some c ∧ ∀ v F' H', HR P F H F' H' pt → DR X.K P F' v c → Q v H') gReprL := fun F H pt x d c Q h dx eg q => ⟨F, pt, x, d, c, rfl, h, dx, eg, q⟩
/-- one own operator behind the built-in ones -/
theorem v_add2 {r : R2} {g2 : G2} {a b : Expr} {f f' : Sem1 D} (ho : OpR X (binaryOp .Add) r) (hr : OpP X.K P r g2) (ha : PE X a (tV X.K P F0 H0 f)) (hb : PE X b (tV X.K P F0 H0 f')) : PE X (.BinOp a .Add b pos) (tV X.K P F0 H0 (e2 g2 f f')) := v_binP ho hr ha hb
end
end VS
namespace VS
open PySem PySem.Spec PyProof.Rows L2
section
variable {X : Cx} {P : Option Addr} {F0 H0 : Hp} {pos : Pos} {g : Bool} {k : Nat} {f C : Addr} {fd : FuncData} {ps : List Str} {c : Fn} {es : List Expr} {kws : List Keyword} {n m : Nat} {ks : List Str} {is : List Nat} {dv : List VV} {dd : List D} {x : Str} {p : Pos} {fa : Sem1 (List D)}
theorem v_mkE (M : Mk X.K C f) (F : FnG g X.prog X.w X.K X.mg X.base k f fd ps (spI X.K C m c)) (hr : RmG g (k + 1) X.A) (hm : X.mg x = some (.ref C)) (hb : ∃ ds0, Vals dv ds0 ∧ BK X.K fd ps (n + 1) ks (0 :: is.map (· + 1)) ds0) (cd : Cst X.K dv dd)
    (ha : PC X P F0 H0 pos es kws n ks fa) (hi : ((is.all fun i => decide (i < n + (ks.length + dd.length))) && is.length == m) = true := by decide) (hg : Gl X x := by rfl) (hdb : (x == ("__debug__" : Str)) = false := by decide) :
    PE X (.Call (.Name x p) es kws pos) (tV X.K P F0 H0 (eCall c is dd fa)) := let ⟨_, hd, hb⟩ := hb; v_mk M F hr hm hb hd cd ha hi hg hdb
theorem s_appE (i : Nat) {x : Str} {e : Expr} {f : Sem1 D} {p1 apos cpos : Pos} (he : PE X e (tV X.K P F0 H0 f)) (hN : X.N[i]? = some x := by rfl) (hv : Vis X.env.scope x := by first | exact Or.inl rfl | exact Or.inr (Or.inl rfl) | exact Or.inr (Or.inr rfl))
    (hd : (x == ("__debug__" : Str)) = false := by decide) (hcd : (x == ("__classdict__" : Str)) = false := by decide) (hst : starEach [e] X.env = (false, eval e X.env) :: starEach [] X.env := by rfl)
    (ht : PE X (.Call (.Attribute (.Name x p1) "append" apos) [e] [] cpos) (tBM X.K "list" rAppend (tVar i) (tCons (tV X.K P F0 H0 f) tNil)) := by exact pe_bm PySem.F.plainAttrs_list PySem.F.slot_list_append PySem.F.type_list_append mt_append (pe_var rfl (by first | exact Or.inl rfl | exact Or.inr (Or.inl rfl) | exact Or.inr (Or.inr rfl))) (by assumption))
    (hs : swapsWith (.Call (.Attribute (.Name x p1) "append" apos) [e] [] cpos) none pos.line X.env = pure false := by rfl) : PS X (.Expr (.Call (.Attribute (.Name x p1) "append" apos) [e] [] cpos) pos) (tS X.K P F0 H0 (gApp i f)) := s_app i he hN hv hd hcd ht hs
def cst0 {K : PySem.W.Frag} : Cst K [] [] := fun _ _ => .nil
theorem cst1 {K : PySem.W.Frag} (i : Int) : Cst K [.int i] [.int i] := fun _ _ => .cons (.int i) .nil
end
end VS
namespace VS
open PySem PySem.Spec PyProof.Rows L2
section
variable {P : Program} {w : World} {K : PySem.W.Frag} {mg : Str → Option Value} {base : Heap} {x qual : Str} {params : Arguments} {body : List Stmt} {scope : Scope} {dvs : List VV} {kws : List (Str × VV)} {f : Addr} {fd : FuncData} {N ps : List Str} {g : Bool} {k n m M : Nat} {c : Fn}
abbrev CxB (P : Program) (w : World) (K : PySem.W.Frag) (mg : Str → Option Value) (base : Heap) (N : List Str) (qual : Str) (scope : Scope) (f : Addr) (cdv : Value) (A : Around) (outer : List Env) (s : Shared) (H : Hp) : Cx := (cxOf CX0 P w K mg base N qual scope f cdv A outer s H fun _ _ _ => False).nox
theorem def_ofE {b : S → Option Fl} (hc : c = fnB n b) (hn : N.length = n) (hm : ps.length = m) (F : FunD K x qual params body scope dvs kws f fd) (Sc : FnScope N ps scope) 
    (hbody : ∀ (cdv : Value) (A : Around) (outer : List Env) (s : Shared) (H : Hp), RmG g k (A.deeper (envOfC qual scope s.heap.objs.size f cdv)) → ∀ (P0 : Option Addr) (F0 H0 : Hp), PSs (CxB P w K mg base N qual scope f cdv A outer s H) body (tS K P0 F0 H0 b)) : FnG g P w K mg base (k + 1) f fd ps (spF K m c) := by
  subst hc hn hm
  exact def_of F Sc hbody
theorem init_ofE {b : Si → Option Si} {C : Addr} (hc : c = fnI n C b) (hn : N.length = n) (hm : ps.length = m) (F : FunD K x qual params body scope dvs kws f fd) (Sc : FnScope N (("self" : Str) :: ps) scope) 
    (hbody : ∀ (cdv : Value) (A : Around) (outer : List Env) (s : Shared) (H : Hp), RmG g k (A.deeper (envOfC qual scope s.heap.objs.size f cdv)) → ∀ (P0 : Option Addr) (F0 H0 : Hp) (x : Addr), PSs (CxB P w K mg base N qual scope f cdv A outer s H) body (tS0 K P0 F0 H0 x C b)) : FnG g P w K mg base (k + 1) f fd (("self" : Str) :: ps) (spI K C m c) := by
  subst hc hn hm
  exact init_of F Sc hbody
theorem cls_ofE {b : S → Option Fl} {C : Addr} {c0 : Str} (hc : c = fnC n b) (hn : N.length = n) (hm : ps.length = m) (F : FunD K x qual params body scope dvs kws f fd) (Sc : FnScope N (c0 :: ps) scope) 
    (hbody : ∀ (cdv : Value) (A : Around) (outer : List Env) (s : Shared) (H : Hp), RmG g k (A.deeper (envOfC qual scope s.heap.objs.size f cdv)) → ∀ (P0 : Option Addr) (F0 H0 : Hp), PSs (CxB P w K mg base N qual scope f cdv A outer s H) body (tS K P0 F0 H0 b)) : FnG g P w K mg base (k + 1) f fd (c0 :: ps) (spC K C m c) := by
  subst hc hn hm
  exact cls_of F Sc hbody
theorem nw_ofE {b : S → Option (D × Pt)} (hc : c = fnR n b) (hn : N.length = n) (hm : ps.length = m) (F : FunD K x qual params body scope dvs kws f fd) (Sc : FnScope N ps scope) 
    (hbody : ∀ (cdv : Value) (A : Around) (outer : List Env) (s : Shared) (H : Hp), RmG g k (A.deeper (envOfC qual scope s.heap.objs.size f cdv)) → ∀ (P0 : Option Addr) (F0 H0 : Hp), PSs (CxB P w K mg base N qual scope f cdv A outer s H) body (tR K P0 F0 H0 b)) : FnG g P w K mg base (k + 1) f fd ps (spNw K m c) := by
  subst hc hn hm
  exact nw_of F Sc hbody
end
end VS
end
section
set_option linter.all false
set_option maxRecDepth 100000
namespace VS
open PySem
/-! ### decimal texts -/
def lt (s : Str) : List Nat := s.cps.toList
theorem lt_inj {a b : Str} (h : lt a = lt b) : a = b := by
  cases a with | mk a =>
  cases b with | mk b =>
  have : a.toList = b.toList := h
  rw [Array.toList_inj.mp this]
theorem lt_app (a b : Str) : lt (a ++ b) = lt a ++ lt b := by
  show (a.cps ++ b.cps).toList = _
  rw [Array.toList_append]
  rfl
theorem lt_len (a : Str) : a.length = (lt a).length := rfl
def txtN (n : Nat) : Str := Str.ofString (Nat.repr n)
theorem lt_txtN (n : Nat) : lt (txtN n) = (Nat.toDigits 10 n).map Char.toNat := by
  unfold lt txtN
  rw [Str.ofString_eq_toList]
  simp [Nat.repr]
def pad : Nat → Nat → List Char
  | 0, _ => []
  | k + 1, r => pad k (r / 10) ++ Nat.toDigits 10 (r % 10)
theorem digits_split : ∀ (k n r : Nat), 0 < n → r < 10 ^ k → Nat.toDigits 10 (n * 10 ^ k + r) = Nat.toDigits 10 n ++ pad k r
  | 0, n, r, hn, hr => by
    have : r = 0 := by simpa using hr
    simp [this, pad]
  | k + 1, n, r, hn, hr => by
    have h1 : r / 10 < 10 ^ k := by rw [Nat.pow_succ] at hr; omega
    have h2 := digits_split k n (r / 10) hn h1
    have h3 : 0 < n * 10 ^ k + r / 10 := by have := Nat.mul_pos hn (Nat.pow_pos (n := k) (by decide : 0 < 10)); omega
    have h4 := Nat.toDigits_append_toDigits (b := 10) (n := n * 10 ^ k + r / 10) (d := r % 10) (by decide) h3 (Nat.mod_lt _ (by decide))
    have h5 : 10 * (n * 10 ^ k + r / 10) + r % 10 = n * 10 ^ (k + 1) + r := by
      rw [Nat.mul_add, Nat.pow_succ]
      have : 10 * (n * 10 ^ k) = n * (10 ^ k * 10) := by rw [Nat.mul_left_comm, Nat.mul_comm 10]
      omega
    rw [← h5, ← h4, h2, List.append_assoc]
    rfl
theorem drop1 (z : Str) : lt (Txt.slice z (some 1) none) = (lt z).drop 1 := by
  rw [← C8.cutS_slice]
  unfold L2.cutS
  show ((z.cps.toList.drop (min 1 z.length)).take (z.length - min 1 z.length)).toArray.toList = _
  have hl : z.length = z.cps.toList.length := rfl
  rw [List.toList_toArray, hl]
  by_cases h : z.cps.toList.length = 0
  · have : z.cps.toList = [] := List.eq_nil_of_length_eq_zero h
    unfold lt
    rw [this]
    rfl
  · have : min 1 z.cps.toList.length = 1 := by omega
    rw [this, List.take_of_length_le (by rw [List.length_drop]; exact Nat.le_refl _)]
    rfl
theorem digit_step {k L : Nat} (h : 10 ^ k ≤ L) : lt (txtN L) = lt (txtN (L / 10 ^ k)) ++ lt (Txt.slice (txtN (L % 10 ^ k + 10 ^ k)) (some 1) none) := by
  have hp : 0 < 10 ^ k := Nat.pow_pos (by decide)
  have h0 : 0 < L / 10 ^ k := Nat.div_pos h hp
  have hr : L % 10 ^ k < 10 ^ k := Nat.mod_lt _ hp
  have e1 := digits_split k (L / 10 ^ k) (L % 10 ^ k) h0 hr
  have e2 : L / 10 ^ k * 10 ^ k + L % 10 ^ k = L := by rw [Nat.mul_comm]; exact Nat.div_add_mod L _
  rw [e2] at e1
  have e3 := digits_split k 1 (L % 10 ^ k) (by decide) hr
  rw [Nat.one_mul, Nat.add_comm] at e3
  rw [drop1, lt_txtN, lt_txtN, lt_txtN, e1, e3, List.map_append, List.map_append]
  rfl
theorem txt_nat (n : Nat) : (toString (n : Int) : Str) = txtN n := rfl
theorem txt_neg (n : Nat) (h : 0 < n) : (toString (-(n : Int)) : Str) = ("-" : Str) ++ txtN n := by
  cases n with
  | zero => omega
  | succ n =>
    apply lt_inj
    rw [lt_app]
    show lt (Str.ofString ("-" ++ (n + 1).repr)) = _
    unfold lt txtN
    rw [Str.ofString_eq_toList, Str.ofString_eq_toList, Str.ofString_eq_toList]
    simp
end VS
end
section
set_option linter.all false
namespace G11
open PySem PySem.Spec PyProof.Rows L2 VS
/-- a Ratio's datum -/
def mk (CR : Addr) (a b : Int) : D := .ins CR ["own_top", "own_bottom"] [.int a, .int b]
/-- the common divisor with b's sign -/
def com (a b : Int) : Int := if b < 0 then 0 - ((Nat.gcd a.natAbs b.natAbs : Nat) : Int) else ((Nat.gcd a.natAbs b.natAbs : Nat) : Int)
/-- Ratio(a, b) -/
def rat (CR : Addr) (a b : Int) : D := mk CR (a.fdiv (com a b)) (b.fdiv (com a b))
/-- not too long -/
def Sm (a : Int) : Prop := a.natAbs < 2 ^ 4000
instance (a : Int) : Decidable (Sm a) := inferInstanceAs (Decidable (a.natAbs < 2 ^ 4000))
def nms : List Str := ["own_top", "own_bottom"]
def insD (CR : Addr) : D → Option (Int × Int)
  | .ins C ns [.int a, .int b] => if C = CR ∧ ns = nms then some (a, b) else none
  | _ => none
def num (CR : Addr) : D → Option (Int × Int)
  | .int i => some (i, 1)
  | d => insD CR d
theorem insD_eq {CR : Addr} {d : D} {a b : Int} (h : insD CR d = some (a, b)) : d = mk CR a b := by
  unfold insD at h
  split at h
  · split at h
    · rename_i hc
      cases h
      rw [hc.1, hc.2]
      rfl
    · cases h
  · cases h
theorem insD_mk (CR : Addr) (a b : Int) : insD CR (mk CR a b) = some (a, b) := by
  unfold insD mk
  exact if_pos ⟨rfl, rfl⟩
theorem num_eq {CR : Addr} {d : D} {a b : Int} (h : num CR d = some (a, b)) : (d = .int a ∧ b = 1) ∨ d = mk CR a b := by
  unfold num at h
  split at h
  · cases h
    exact .inl ⟨rfl, rfl⟩
  · exact .inr (insD_eq h)
theorem num_mk (CR : Addr) (a b : Int) : num CR (mk CR a b) = some (a, b) := insD_mk CR a b
def ok4 (a b c d : Int) : Prop := Sm a ∧ Sm b ∧ Sm c ∧ Sm d ∧ b ≠ 0 ∧ d ≠ 0
instance (a b c d : Int) : Decidable (ok4 a b c d) := inferInstanceAs (Decidable (_ ∧ _ ∧ _ ∧ _ ∧ _ ∧ _))
def op2 (CR : Addr) (f : Int → Int → Int → Int → Int × Int) : List D → Option D
  | [x, y] => match insD CR x, num CR y with
    | some (a, b), some (c, d) => if ok4 a b c d then some (rat CR (f a b c d).1 (f a b c d).2) else none
    | _, _ => none
  | _ => none
def cf_Ratio___add__ (CR : Addr) : List D → Option D := op2 CR fun a b c d => (a * d + c * b, b * d)
def cf_Ratio___radd__ (CR : Addr) : List D → Option D := op2 CR fun a b c d => (a * d + c * b, b * d)
def cf_Ratio___sub__ (CR : Addr) : List D → Option D := op2 CR fun a b c d => (a * d - c * b, b * d)
def cf_Ratio___rsub__ (CR : Addr) : List D → Option D := op2 CR fun a b c d => (c * b - a * d, b * d)
def cf_Ratio___mul__ (CR : Addr) : List D → Option D := op2 CR fun a b c d => (a * c, b * d)
def cf_Ratio___rmul__ (CR : Addr) : List D → Option D := op2 CR fun a b c d => (a * c, b * d)
def cf_Ratio___neg__ (CR : Addr) : List D → Option D
  | [x] => match insD CR x with
    | some (a, b) => if Sm a ∧ Sm b ∧ b ≠ 0 then some (rat CR (0 - a) b) else none
    | none => none
  | _ => none
def txt (a : Int) : Str := toString a
def Tx' (a : Int) : Prop := a.natAbs.log2 < 1900
instance (a : Int) : Decidable (Tx' a) := inferInstanceAs (Decidable (a.natAbs.log2 < 1900))
def cf_Ratio___str__ (CR : Addr) : List D → Option D
  | [x] => match insD CR x with
    | some (a, b) => if Tx' a ∧ Tx' b then some (.str (if b = 1 then txt a else txt a ++ "/" ++ txt b)) else none
    | none => none
  | _ => none
def cf_Ratio___repr__ (CR : Addr) : List D → Option D
  | [x] => match insD CR x with
    | some (a, b) => if Tx' a ∧ Tx' b then some (.str ("Ratio(" ++ txt a ++ ", " ++ txt b ++ ")")) else none
    | none => none
  | _ => none
/-- == of a Ratio and a Ratio or an int -/
def oe (CR : Addr) : D → D → Option Bool := fun x y => match insD CR x with
  | some (a, b) => match y with
    | .int _ => some false
    | y => match insD CR y with
      | some (c, d) => some (decide (a = c) && decide (b = d))
      | none => none
  | none => none
end G11
end
section
set_option Elab.async false
set_option linter.all false
set_option maxRecDepth 100000
set_option maxHeartbeats 4000000
namespace G11
open PySem PySem.Spec PyProof.Rows L2 VS
def top (i : Nat) : Stmt := PySem.Challenge.pw_soughtrows_k11_whole_numbers_reckoned.main.body.getD i (.Pass ⟨0, 0, 0, 0⟩)
abbrev st_is_integer : Stmt := top 6
theorem sc_is_integer : FnScope ["value"] ["value"] (defScope st_is_integer) := ⟨rfl, rfl, rfl, by decide +kernel, rfl, by decide +kernel, by decide +kernel⟩
abbrev st_is_list : Stmt := top 7
theorem sc_is_list : FnScope ["value"] ["value"] (defScope st_is_list) := ⟨rfl, rfl, rfl, by decide +kernel, rfl, by decide +kernel, by decide +kernel⟩
abbrev st_digits_of : Stmt := top 10
theorem sc_digits_of : FnScope ["number", "left", "told", "part", "sign"] ["number"] (defScope st_digits_of) := ⟨rfl, rfl, rfl, by decide +kernel, rfl, by decide +kernel, by decide +kernel⟩
abbrev st_divisor_of : Stmt := top 11
theorem sc_divisor_of : FnScope ["one", "other"] ["one", "other"] (defScope st_divisor_of) := ⟨rfl, rfl, rfl, by decide +kernel, rfl, by decide +kernel, by decide +kernel⟩
abbrev st_Ratio___init__ : Stmt := inClass (top 12) 0
theorem sc_Ratio___init__ : FnScope ["self", "top", "bottom", "common"] ["self", "top", "bottom"] (defScope st_Ratio___init__) := ⟨rfl, rfl, rfl, by decide +kernel, rfl, by decide +kernel, by decide +kernel⟩
abbrev st_Ratio_top : Stmt := inClass (top 12) 1
theorem sc_Ratio_top : FnScope ["self"] ["self"] (defScope st_Ratio_top) := ⟨rfl, rfl, rfl, by decide +kernel, rfl, by decide +kernel, by decide +kernel⟩
abbrev st_Ratio_bottom : Stmt := inClass (top 12) 2
theorem sc_Ratio_bottom : FnScope ["self"] ["self"] (defScope st_Ratio_bottom) := ⟨rfl, rfl, rfl, by decide +kernel, rfl, by decide +kernel, by decide +kernel⟩
abbrev st_Ratio_sign : Stmt := inClass (top 12) 3
theorem sc_Ratio_sign : FnScope ["self"] ["self"] (defScope st_Ratio_sign) := ⟨rfl, rfl, rfl, by decide +kernel, rfl, by decide +kernel, by decide +kernel⟩
abbrev st_Ratio_is_whole : Stmt := inClass (top 12) 4
theorem sc_Ratio_is_whole : FnScope ["self"] ["self"] (defScope st_Ratio_is_whole) := ⟨rfl, rfl, rfl, by decide +kernel, rfl, by decide +kernel, by decide +kernel⟩
abbrev st_told_pair : Stmt := top 13
theorem sc_told_pair : FnScope ["value"] ["value"] (defScope st_told_pair) := ⟨rfl, rfl, rfl, by decide +kernel, rfl, by decide +kernel, by decide +kernel⟩
abbrev st_Ratio___add__ : Stmt := inClass (top 12) 6
theorem sc_Ratio___add__ : FnScope ["self", "other", "top", "bottom"] ["self", "other"] (defScope st_Ratio___add__) := ⟨rfl, rfl, rfl, by decide +kernel, rfl, by decide +kernel, by decide +kernel⟩
abbrev st_Ratio___radd__ : Stmt := inClass (top 12) 7
theorem sc_Ratio___radd__ : FnScope ["self", "other", "top", "bottom"] ["self", "other"] (defScope st_Ratio___radd__) := ⟨rfl, rfl, rfl, by decide +kernel, rfl, by decide +kernel, by decide +kernel⟩
abbrev st_Ratio___sub__ : Stmt := inClass (top 12) 8
theorem sc_Ratio___sub__ : FnScope ["self", "other", "top", "bottom"] ["self", "other"] (defScope st_Ratio___sub__) := ⟨rfl, rfl, rfl, by decide +kernel, rfl, by decide +kernel, by decide +kernel⟩
abbrev st_Ratio___rsub__ : Stmt := inClass (top 12) 9
theorem sc_Ratio___rsub__ : FnScope ["self", "other", "top", "bottom"] ["self", "other"] (defScope st_Ratio___rsub__) := ⟨rfl, rfl, rfl, by decide +kernel, rfl, by decide +kernel, by decide +kernel⟩
abbrev st_Ratio___mul__ : Stmt := inClass (top 12) 10
theorem sc_Ratio___mul__ : FnScope ["self", "other", "top", "bottom"] ["self", "other"] (defScope st_Ratio___mul__) := ⟨rfl, rfl, rfl, by decide +kernel, rfl, by decide +kernel, by decide +kernel⟩
abbrev st_Ratio___rmul__ : Stmt := inClass (top 12) 11
theorem sc_Ratio___rmul__ : FnScope ["self", "other", "top", "bottom"] ["self", "other"] (defScope st_Ratio___rmul__) := ⟨rfl, rfl, rfl, by decide +kernel, rfl, by decide +kernel, by decide +kernel⟩
abbrev st_Ratio___neg__ : Stmt := inClass (top 12) 12
theorem sc_Ratio___neg__ : FnScope ["self"] ["self"] (defScope st_Ratio___neg__) := ⟨rfl, rfl, rfl, by decide +kernel, rfl, by decide +kernel, by decide +kernel⟩
abbrev st_Ratio_over : Stmt := inClass (top 12) 13
theorem sc_Ratio_over : FnScope ["self", "other", "top", "bottom"] ["self", "other"] (defScope st_Ratio_over) := ⟨rfl, rfl, rfl, by decide +kernel, rfl, by decide +kernel, by decide +kernel⟩
abbrev st_Ratio_size : Stmt := inClass (top 12) 14
theorem sc_Ratio_size : FnScope ["self"] ["self"] (defScope st_Ratio_size) := ⟨rfl, rfl, rfl, by decide +kernel, rfl, by decide +kernel, by decide +kernel⟩
abbrev st_Ratio_is_below : Stmt := inClass (top 12) 15
theorem sc_Ratio_is_below : FnScope ["self", "other", "top", "bottom"] ["self", "other"] (defScope st_Ratio_is_below) := ⟨rfl, rfl, rfl, by decide +kernel, rfl, by decide +kernel, by decide +kernel⟩
abbrev st_Ratio_is_at_most : Stmt := inClass (top 12) 16
theorem sc_Ratio_is_at_most : FnScope ["self", "other", "top", "bottom"] ["self", "other"] (defScope st_Ratio_is_at_most) := ⟨rfl, rfl, rfl, by decide +kernel, rfl, by decide +kernel, by decide +kernel⟩
abbrev st_Ratio___eq__ : Stmt := inClass (top 12) 17
theorem sc_Ratio___eq__ : FnScope ["self", "other"] ["self", "other"] (defScope st_Ratio___eq__) := ⟨rfl, rfl, rfl, by decide +kernel, rfl, by decide +kernel, by decide +kernel⟩
abbrev st_Ratio___str__ : Stmt := inClass (top 12) 18
theorem sc_Ratio___str__ : FnScope ["self"] ["self"] (defScope st_Ratio___str__) := ⟨rfl, rfl, rfl, by decide +kernel, rfl, by decide +kernel, by decide +kernel⟩
abbrev st_Ratio___repr__ : Stmt := inClass (top 12) 19
theorem sc_Ratio___repr__ : FnScope ["self"] ["self"] (defScope st_Ratio___repr__) := ⟨rfl, rfl, rfl, by decide +kernel, rfl, by decide +kernel, by decide +kernel⟩
abbrev st_is_number : Stmt := top 14
theorem sc_is_number : FnScope ["value"] ["value"] (defScope st_is_number) := ⟨rfl, rfl, rfl, by decide +kernel, rfl, by decide +kernel, by decide +kernel⟩
abbrev st_ratio_of : Stmt := top 15
theorem sc_ratio_of : FnScope ["number"] ["number"] (defScope st_ratio_of) := ⟨rfl, rfl, rfl, by decide +kernel, rfl, by decide +kernel, by decide +kernel⟩
abbrev st_want_number : Stmt := top 16
theorem sc_want_number : FnScope ["value"] ["value"] (defScope st_want_number) := ⟨rfl, rfl, rfl, by decide +kernel, rfl, by decide +kernel, by decide +kernel⟩
abbrev st_total_of : Stmt := top 17
theorem sc_total_of : FnScope ["ratios", "found", "ratio"] ["ratios"] (defScope st_total_of) := ⟨rfl, rfl, rfl, by decide +kernel, rfl, by decide +kernel, by decide +kernel⟩
abbrev st_Ratio_total : Stmt := inClass (top 12) 5
theorem sc_Ratio_total : FnScope ["cls", "numbers", "number"] ["cls", "numbers"] (defScope st_Ratio_total) := ⟨rfl, rfl, rfl, by decide +kernel, rfl, by decide +kernel, by decide +kernel⟩
abbrev st__law_pot : Stmt := top 19
theorem sc__law_pot : FnScope ["_law_script", "_law_k", "_law_cell"] ["_law_script", "_law_k"] (defScope st__law_pot) := ⟨rfl, rfl, rfl, by decide +kernel, rfl, by decide +kernel, by decide +kernel⟩
abbrev st__law_draw : Stmt := top 20
theorem sc__law_draw : FnScope ["_law_pot_here", "_law_size", "_law_digit"] ["_law_pot_here", "_law_size"] (defScope st__law_draw) := ⟨rfl, rfl, rfl, by decide +kernel, rfl, by decide +kernel, by decide +kernel⟩
abbrev st__law_pick : Stmt := top 21
theorem sc__law_pick : FnScope ["_law_pot_here", "_law_some"] ["_law_pot_here", "_law_some"] (defScope st__law_pick) := ⟨rfl, rfl, rfl, by decide +kernel, rfl, by decide +kernel, by decide +kernel⟩
abbrev st__law_top : Stmt := top 22
theorem sc__law_top : FnScope ["_law_pot_here", "_law_way", "_law_found", "_law_turn"] ["_law_pot_here"] (defScope st__law_top) := ⟨rfl, rfl, rfl, by decide +kernel, rfl, by decide +kernel, by decide +kernel⟩
abbrev st__law_whole : Stmt := top 23
theorem sc__law_whole : FnScope ["_law_pot_here"] ["_law_pot_here"] (defScope st__law_whole) := ⟨rfl, rfl, rfl, by decide +kernel, rfl, by decide +kernel, by decide +kernel⟩
abbrev st__law_pair : Stmt := top 24
theorem sc__law_pair : FnScope ["_law_pot_here", "_law_bottom"] ["_law_pot_here"] (defScope st__law_pair) := ⟨rfl, rfl, rfl, by decide +kernel, rfl, by decide +kernel, by decide +kernel⟩
abbrev st__law_common : Stmt := top 25
theorem sc__law_common : FnScope ["_law_one", "_law_other", "_law_near", "_law_far"] ["_law_one", "_law_other"] (defScope st__law_common) := ⟨rfl, rfl, rfl, by decide +kernel, rfl, by decide +kernel, by decide +kernel⟩
abbrev st__law_is : Stmt := top 26
theorem sc__law_is : FnScope ["_law_ratio", "_law_top_here", "_law_bottom", "_law_text", "_law_sign"] ["_law_ratio", "_law_top_here", "_law_bottom"] (defScope st__law_is) := ⟨rfl, rfl, rfl, by decide +kernel, rfl, by decide +kernel, by decide +kernel⟩
abbrev st__law_two_right : Stmt := top 27
theorem sc__law_two_right : FnScope ["_law_one", "_law_other", "_law_near", "_law_far", "_law_a", "_law_b", "_law_c", "_law_d", "_law_below", "_law_told"] ["_law_one", "_law_other"] (defScope st__law_two_right) := ⟨rfl, rfl, rfl, by decide +kernel, rfl, by decide +kernel, by decide +kernel⟩
abbrev st__law_whole_right : Stmt := top 28
theorem sc__law_whole_right : FnScope ["_law_one", "_law_whole_here", "_law_near", "_law_a", "_law_b", "_law_below"] ["_law_one", "_law_whole_here"] (defScope st__law_whole_right) := ⟨rfl, rfl, rfl, by decide +kernel, rfl, by decide +kernel, by decide +kernel⟩
abbrev st__law_total_right : Stmt := top 29
theorem sc__law_total_right : FnScope ["_law_pot_here", "_law_pairs", "_law_top_here", "_law_bottom", "_law_told", "_law_turn", "_law_whole_here", "_law_one"] ["_law_pot_here", "_law_pairs"] (defScope st__law_total_right) := ⟨rfl, rfl, rfl, by decide +kernel, rfl, by decide +kernel, by decide +kernel⟩
abbrev st_law : Stmt := top 30
theorem sc_law : FnScope ["_law_script", "_law_pot_here", "_law_pairs", "_law_whole_here", "_law_one", "_law_other"] ["_law_script"] (defScope st_law) := ⟨rfl, rfl, rfl, by decide +kernel, rfl, by decide +kernel, by decide +kernel⟩
structure Tx (K : PySem.W.Frag) (mg : Str → Option Value) where
  CR : Addr
  mR : mg "Ratio" = some (.ref CR)
  cR : Cls K CR
  wR : OwnC K CR
  own : ∀ C ∈ [CR], OwnC K C
  ok_Ratio : IsiOk K (.ref CR) (kCls [CR] CR)
  f_is_integer : Addr
  d_is_integer : FuncData
  F_is_integer : FunD K "is_integer" "is_integer" (defArgs st_is_integer) (defBody st_is_integer) (defScope st_is_integer) [] [] f_is_integer d_is_integer
  m_is_integer : mg "is_integer" = some (.ref f_is_integer)
  f_is_list : Addr
  d_is_list : FuncData
  F_is_list : FunD K "is_list" "is_list" (defArgs st_is_list) (defBody st_is_list) (defScope st_is_list) [] [] f_is_list d_is_list
  m_is_list : mg "is_list" = some (.ref f_is_list)
  f_digits_of : Addr
  d_digits_of : FuncData
  F_digits_of : FunD K "digits_of" "digits_of" (defArgs st_digits_of) (defBody st_digits_of) (defScope st_digits_of) [] [] f_digits_of d_digits_of
  m_digits_of : mg "digits_of" = some (.ref f_digits_of)
  f_divisor_of : Addr
  d_divisor_of : FuncData
  F_divisor_of : FunD K "divisor_of" "divisor_of" (defArgs st_divisor_of) (defBody st_divisor_of) (defScope st_divisor_of) [] [] f_divisor_of d_divisor_of
  m_divisor_of : mg "divisor_of" = some (.ref f_divisor_of)
  f_Ratio___init__ : Addr
  d_Ratio___init__ : FuncData
  F_Ratio___init__ : FunD K "__init__" "Ratio.__init__" (defArgs st_Ratio___init__) (defBody st_Ratio___init__) (defScope st_Ratio___init__) [V.int 1] [] f_Ratio___init__ d_Ratio___init__
  f_Ratio_top : Addr
  d_Ratio_top : FuncData
  F_Ratio_top : FunD K "top" "Ratio.top" (defArgs st_Ratio_top) (defBody st_Ratio_top) (defScope st_Ratio_top) [] [] f_Ratio_top d_Ratio_top
  f_Ratio_bottom : Addr
  d_Ratio_bottom : FuncData
  F_Ratio_bottom : FunD K "bottom" "Ratio.bottom" (defArgs st_Ratio_bottom) (defBody st_Ratio_bottom) (defScope st_Ratio_bottom) [] [] f_Ratio_bottom d_Ratio_bottom
  f_Ratio_sign : Addr
  d_Ratio_sign : FuncData
  F_Ratio_sign : FunD K "sign" "Ratio.sign" (defArgs st_Ratio_sign) (defBody st_Ratio_sign) (defScope st_Ratio_sign) [] [] f_Ratio_sign d_Ratio_sign
  f_Ratio_is_whole : Addr
  d_Ratio_is_whole : FuncData
  F_Ratio_is_whole : FunD K "is_whole" "Ratio.is_whole" (defArgs st_Ratio_is_whole) (defBody st_Ratio_is_whole) (defScope st_Ratio_is_whole) [] [] f_Ratio_is_whole d_Ratio_is_whole
  f_told_pair : Addr
  d_told_pair : FuncData
  F_told_pair : FunD K "told_pair" "told_pair" (defArgs st_told_pair) (defBody st_told_pair) (defScope st_told_pair) [] [] f_told_pair d_told_pair
  m_told_pair : mg "told_pair" = some (.ref f_told_pair)
  f_Ratio___add__ : Addr
  d_Ratio___add__ : FuncData
  F_Ratio___add__ : FunD K "__add__" "Ratio.__add__" (defArgs st_Ratio___add__) (defBody st_Ratio___add__) (defScope st_Ratio___add__) [] [] f_Ratio___add__ d_Ratio___add__
  f_Ratio___radd__ : Addr
  d_Ratio___radd__ : FuncData
  F_Ratio___radd__ : FunD K "__radd__" "Ratio.__radd__" (defArgs st_Ratio___radd__) (defBody st_Ratio___radd__) (defScope st_Ratio___radd__) [] [] f_Ratio___radd__ d_Ratio___radd__
  f_Ratio___sub__ : Addr
  d_Ratio___sub__ : FuncData
  F_Ratio___sub__ : FunD K "__sub__" "Ratio.__sub__" (defArgs st_Ratio___sub__) (defBody st_Ratio___sub__) (defScope st_Ratio___sub__) [] [] f_Ratio___sub__ d_Ratio___sub__
  f_Ratio___rsub__ : Addr
  d_Ratio___rsub__ : FuncData
  F_Ratio___rsub__ : FunD K "__rsub__" "Ratio.__rsub__" (defArgs st_Ratio___rsub__) (defBody st_Ratio___rsub__) (defScope st_Ratio___rsub__) [] [] f_Ratio___rsub__ d_Ratio___rsub__
  f_Ratio___mul__ : Addr
  d_Ratio___mul__ : FuncData
  F_Ratio___mul__ : FunD K "__mul__" "Ratio.__mul__" (defArgs st_Ratio___mul__) (defBody st_Ratio___mul__) (defScope st_Ratio___mul__) [] [] f_Ratio___mul__ d_Ratio___mul__
  f_Ratio___rmul__ : Addr
  d_Ratio___rmul__ : FuncData
  F_Ratio___rmul__ : FunD K "__rmul__" "Ratio.__rmul__" (defArgs st_Ratio___rmul__) (defBody st_Ratio___rmul__) (defScope st_Ratio___rmul__) [] [] f_Ratio___rmul__ d_Ratio___rmul__
  f_Ratio___neg__ : Addr
  d_Ratio___neg__ : FuncData
  F_Ratio___neg__ : FunD K "__neg__" "Ratio.__neg__" (defArgs st_Ratio___neg__) (defBody st_Ratio___neg__) (defScope st_Ratio___neg__) [] [] f_Ratio___neg__ d_Ratio___neg__
  f_Ratio_over : Addr
  d_Ratio_over : FuncData
  F_Ratio_over : FunD K "over" "Ratio.over" (defArgs st_Ratio_over) (defBody st_Ratio_over) (defScope st_Ratio_over) [] [] f_Ratio_over d_Ratio_over
  f_Ratio_size : Addr
  d_Ratio_size : FuncData
  F_Ratio_size : FunD K "size" "Ratio.size" (defArgs st_Ratio_size) (defBody st_Ratio_size) (defScope st_Ratio_size) [] [] f_Ratio_size d_Ratio_size
  f_Ratio_is_below : Addr
  d_Ratio_is_below : FuncData
  F_Ratio_is_below : FunD K "is_below" "Ratio.is_below" (defArgs st_Ratio_is_below) (defBody st_Ratio_is_below) (defScope st_Ratio_is_below) [] [] f_Ratio_is_below d_Ratio_is_below
  f_Ratio_is_at_most : Addr
  d_Ratio_is_at_most : FuncData
  F_Ratio_is_at_most : FunD K "is_at_most" "Ratio.is_at_most" (defArgs st_Ratio_is_at_most) (defBody st_Ratio_is_at_most) (defScope st_Ratio_is_at_most) [] [] f_Ratio_is_at_most d_Ratio_is_at_most
  f_Ratio___eq__ : Addr
  d_Ratio___eq__ : FuncData
  F_Ratio___eq__ : FunD K "__eq__" "Ratio.__eq__" (defArgs st_Ratio___eq__) (defBody st_Ratio___eq__) (defScope st_Ratio___eq__) [] [] f_Ratio___eq__ d_Ratio___eq__
  f_Ratio___str__ : Addr
  d_Ratio___str__ : FuncData
  F_Ratio___str__ : FunD K "__str__" "Ratio.__str__" (defArgs st_Ratio___str__) (defBody st_Ratio___str__) (defScope st_Ratio___str__) [] [] f_Ratio___str__ d_Ratio___str__
  f_Ratio___repr__ : Addr
  d_Ratio___repr__ : FuncData
  F_Ratio___repr__ : FunD K "__repr__" "Ratio.__repr__" (defArgs st_Ratio___repr__) (defBody st_Ratio___repr__) (defScope st_Ratio___repr__) [] [] f_Ratio___repr__ d_Ratio___repr__
  f_is_number : Addr
  d_is_number : FuncData
  F_is_number : FunD K "is_number" "is_number" (defArgs st_is_number) (defBody st_is_number) (defScope st_is_number) [] [] f_is_number d_is_number
  m_is_number : mg "is_number" = some (.ref f_is_number)
  f_ratio_of : Addr
  d_ratio_of : FuncData
  F_ratio_of : FunD K "ratio_of" "ratio_of" (defArgs st_ratio_of) (defBody st_ratio_of) (defScope st_ratio_of) [] [] f_ratio_of d_ratio_of
  m_ratio_of : mg "ratio_of" = some (.ref f_ratio_of)
  f_want_number : Addr
  d_want_number : FuncData
  F_want_number : FunD K "want_number" "want_number" (defArgs st_want_number) (defBody st_want_number) (defScope st_want_number) [] [] f_want_number d_want_number
  m_want_number : mg "want_number" = some (.ref f_want_number)
  f_total_of : Addr
  d_total_of : FuncData
  F_total_of : FunD K "total_of" "total_of" (defArgs st_total_of) (defBody st_total_of) (defScope st_total_of) [] [] f_total_of d_total_of
  m_total_of : mg "total_of" = some (.ref f_total_of)
  f_Ratio_total : Addr
  d_Ratio_total : FuncData
  F_Ratio_total : FunD K "total" "Ratio.total" (defArgs st_Ratio_total) (defBody st_Ratio_total) (defScope st_Ratio_total) [] [] f_Ratio_total d_Ratio_total
  f__law_pot : Addr
  d__law_pot : FuncData
  F__law_pot : FunD K "_law_pot" "_law_pot" (defArgs st__law_pot) (defBody st__law_pot) (defScope st__law_pot) [] [] f__law_pot d__law_pot
  m__law_pot : mg "_law_pot" = some (.ref f__law_pot)
  f__law_draw : Addr
  d__law_draw : FuncData
  F__law_draw : FunD K "_law_draw" "_law_draw" (defArgs st__law_draw) (defBody st__law_draw) (defScope st__law_draw) [] [] f__law_draw d__law_draw
  m__law_draw : mg "_law_draw" = some (.ref f__law_draw)
  f__law_pick : Addr
  d__law_pick : FuncData
  F__law_pick : FunD K "_law_pick" "_law_pick" (defArgs st__law_pick) (defBody st__law_pick) (defScope st__law_pick) [] [] f__law_pick d__law_pick
  m__law_pick : mg "_law_pick" = some (.ref f__law_pick)
  f__law_top : Addr
  d__law_top : FuncData
  F__law_top : FunD K "_law_top" "_law_top" (defArgs st__law_top) (defBody st__law_top) (defScope st__law_top) [] [] f__law_top d__law_top
  m__law_top : mg "_law_top" = some (.ref f__law_top)
  f__law_whole : Addr
  d__law_whole : FuncData
  F__law_whole : FunD K "_law_whole" "_law_whole" (defArgs st__law_whole) (defBody st__law_whole) (defScope st__law_whole) [] [] f__law_whole d__law_whole
  m__law_whole : mg "_law_whole" = some (.ref f__law_whole)
  f__law_pair : Addr
  d__law_pair : FuncData
  F__law_pair : FunD K "_law_pair" "_law_pair" (defArgs st__law_pair) (defBody st__law_pair) (defScope st__law_pair) [] [] f__law_pair d__law_pair
  m__law_pair : mg "_law_pair" = some (.ref f__law_pair)
  f__law_common : Addr
  d__law_common : FuncData
  F__law_common : FunD K "_law_common" "_law_common" (defArgs st__law_common) (defBody st__law_common) (defScope st__law_common) [] [] f__law_common d__law_common
  m__law_common : mg "_law_common" = some (.ref f__law_common)
  f__law_is : Addr
  d__law_is : FuncData
  F__law_is : FunD K "_law_is" "_law_is" (defArgs st__law_is) (defBody st__law_is) (defScope st__law_is) [] [] f__law_is d__law_is
  m__law_is : mg "_law_is" = some (.ref f__law_is)
  f__law_two_right : Addr
  d__law_two_right : FuncData
  F__law_two_right : FunD K "_law_two_right" "_law_two_right" (defArgs st__law_two_right) (defBody st__law_two_right) (defScope st__law_two_right) [] [] f__law_two_right d__law_two_right
  m__law_two_right : mg "_law_two_right" = some (.ref f__law_two_right)
  f__law_whole_right : Addr
  d__law_whole_right : FuncData
  F__law_whole_right : FunD K "_law_whole_right" "_law_whole_right" (defArgs st__law_whole_right) (defBody st__law_whole_right) (defScope st__law_whole_right) [] [] f__law_whole_right d__law_whole_right
  m__law_whole_right : mg "_law_whole_right" = some (.ref f__law_whole_right)
  f__law_total_right : Addr
  d__law_total_right : FuncData
  F__law_total_right : FunD K "_law_total_right" "_law_total_right" (defArgs st__law_total_right) (defBody st__law_total_right) (defScope st__law_total_right) [] [] f__law_total_right d__law_total_right
  m__law_total_right : mg "_law_total_right" = some (.ref f__law_total_right)
  f_law : Addr
  d_law : FuncData
  F_law : FunD K "law" "law" (defArgs st_law) (defBody st_law) (defScope st_law) [] [] f_law d_law
  m_law : mg "law" = some (.ref f_law)
  kR : Mk K CR f_Ratio___init__
  n_own_top : NoAttr K CR "own_top"
  n_own_bottom : NoAttr K CR "own_bottom"
  pa_top : Addr
  p_top : PropOf K CR "top" pa_top f_Ratio_top
  pa_bottom : Addr
  p_bottom : PropOf K CR "bottom" pa_bottom f_Ratio_bottom
  pa_sign : Addr
  p_sign : PropOf K CR "sign" pa_sign f_Ratio_sign
  pa_is_whole : Addr
  p_is_whole : PropOf K CR "is_whole" pa_is_whole f_Ratio_is_whole
  t_over : Meth K CR "over" f_Ratio_over
  t_size : Meth K CR "size" f_Ratio_size
  t_is_below : Meth K CR "is_below" f_Ratio_is_below
  t_is_at_most : Meth K CR "is_at_most" f_Ratio_is_at_most
  mcR : Value
  rdR : ClX.CRead K CR mcR
  pc_total : Addr
  cm_total : ClX.CMet K CR mcR "total" pc_total f_Ratio_total
  o_Add : OpC K CR .Add f_Ratio___add__ f_Ratio___radd__
  o_Sub : OpC K CR .Sub f_Ratio___sub__ f_Ratio___rsub__
  o_Mult : OpC K CR .Mult f_Ratio___mul__ f_Ratio___rmul__
  g_neg : PySem.W.findIn K (.ref CR) "__neg__" = some (some (.ref f_Ratio___neg__))
  gf_neg : PySem.W.isFn K (.ref f_Ratio___neg__) = true
  g_eq : PySem.W.findIn K (.ref CR) "__eq__" = some (some (.ref f_Ratio___eq__))
  gf_eq : PySem.W.isFn K (.ref f_Ratio___eq__) = true
  g_str : PySem.W.findIn K (.ref CR) "__str__" = some (some (.ref f_Ratio___str__))
  gf_str : PySem.W.isFn K (.ref f_Ratio___str__) = true
  g_repr : PySem.W.findIn K (.ref CR) "__repr__" = some (some (.ref f_Ratio___repr__))
  gf_repr : PySem.W.isFn K (.ref f_Ratio___repr__) = true
  neR : PySem.W.findIn K (.ref CR) "__ne__" = some (some (.builtin "object.__ne__"))
  soR : PySem.W.subIn K (.ref CR) (.type "object") = some true
  niR : PySem.W.notFirst K CR (.type "int") = true
  nmR : PySem.W.notFirst K CR (.ref CR) = true
  v_PART : Value
  m_PART : mg "PART" = some v_PART
  r_PART : RelV (.int 1000000000000000000000000000000000000000000000000000000000000) v_PART
  b_isinstance : mg "isinstance" = none
  b_int : mg "int" = none
  b_bool : mg "bool" = none
  b_list : mg "list" = none
  b_tuple : mg "tuple" = none
  b_str : mg "str" = none
  b_repr : mg "repr" = none
  b_abs : mg "abs" = none
  b_max : mg "max" = none
  b_len : mg "len" = none
  b_divmod : mg "divmod" = none
  b_all : mg "all" = none
  b_range : mg "range" = none
  m_gcd : mg "gcd" = some (.builtin "math.gcd")
theorem bk_Ratio___add___1 {K : PySem.W.Frag} {mg : Str → Option Value} (T : Tx K mg) : BK K T.d_Ratio___add__ ["self", "other"] 2 [] [0, 1] [] := bk0 T.F_Ratio___add__ 2 [] [0, 1] (fun _ _ _ _ _ _ us ws hu hw => match us, hu, ws, hw with | [_, _], _, [], _ => rfl)
abbrev bk_Ratio___add__ := @bk_Ratio___add___1
theorem bk_Ratio___radd___1 {K : PySem.W.Frag} {mg : Str → Option Value} (T : Tx K mg) : BK K T.d_Ratio___radd__ ["self", "other"] 2 [] [0, 1] [] := bk0 T.F_Ratio___radd__ 2 [] [0, 1] (fun _ _ _ _ _ _ us ws hu hw => match us, hu, ws, hw with | [_, _], _, [], _ => rfl)
abbrev bk_Ratio___radd__ := @bk_Ratio___radd___1
theorem bk_Ratio___sub___1 {K : PySem.W.Frag} {mg : Str → Option Value} (T : Tx K mg) : BK K T.d_Ratio___sub__ ["self", "other"] 2 [] [0, 1] [] := bk0 T.F_Ratio___sub__ 2 [] [0, 1] (fun _ _ _ _ _ _ us ws hu hw => match us, hu, ws, hw with | [_, _], _, [], _ => rfl)
abbrev bk_Ratio___sub__ := @bk_Ratio___sub___1
theorem bk_Ratio___rsub___1 {K : PySem.W.Frag} {mg : Str → Option Value} (T : Tx K mg) : BK K T.d_Ratio___rsub__ ["self", "other"] 2 [] [0, 1] [] := bk0 T.F_Ratio___rsub__ 2 [] [0, 1] (fun _ _ _ _ _ _ us ws hu hw => match us, hu, ws, hw with | [_, _], _, [], _ => rfl)
abbrev bk_Ratio___rsub__ := @bk_Ratio___rsub___1
theorem bk_Ratio___mul___1 {K : PySem.W.Frag} {mg : Str → Option Value} (T : Tx K mg) : BK K T.d_Ratio___mul__ ["self", "other"] 2 [] [0, 1] [] := bk0 T.F_Ratio___mul__ 2 [] [0, 1] (fun _ _ _ _ _ _ us ws hu hw => match us, hu, ws, hw with | [_, _], _, [], _ => rfl)
abbrev bk_Ratio___mul__ := @bk_Ratio___mul___1
theorem bk_Ratio___rmul___1 {K : PySem.W.Frag} {mg : Str → Option Value} (T : Tx K mg) : BK K T.d_Ratio___rmul__ ["self", "other"] 2 [] [0, 1] [] := bk0 T.F_Ratio___rmul__ 2 [] [0, 1] (fun _ _ _ _ _ _ us ws hu hw => match us, hu, ws, hw with | [_, _], _, [], _ => rfl)
abbrev bk_Ratio___rmul__ := @bk_Ratio___rmul___1
theorem bk_Ratio___eq___1 {K : PySem.W.Frag} {mg : Str → Option Value} (T : Tx K mg) : BK K T.d_Ratio___eq__ ["self", "other"] 2 [] [0, 1] [] := bk0 T.F_Ratio___eq__ 2 [] [0, 1] (fun _ _ _ _ _ _ us ws hu hw => match us, hu, ws, hw with | [_, _], _, [], _ => rfl)
abbrev bk_Ratio___eq__ := @bk_Ratio___eq___1
theorem bk_Ratio___neg___0 {K : PySem.W.Frag} {mg : Str → Option Value} (T : Tx K mg) : BK K T.d_Ratio___neg__ ["self"] 1 [] [0] [] := bk0 T.F_Ratio___neg__ 1 [] [0] (fun _ _ _ _ _ _ us ws hu hw => match us, hu, ws, hw with | [_], _, [], _ => rfl)
abbrev bk_Ratio___neg__ := @bk_Ratio___neg___0
theorem bk_Ratio___str___0 {K : PySem.W.Frag} {mg : Str → Option Value} (T : Tx K mg) : BK K T.d_Ratio___str__ ["self"] 1 [] [0] [] := bk0 T.F_Ratio___str__ 1 [] [0] (fun _ _ _ _ _ _ us ws hu hw => match us, hu, ws, hw with | [_], _, [], _ => rfl)
abbrev bk_Ratio___str__ := @bk_Ratio___str___0
theorem bk_Ratio___repr___0 {K : PySem.W.Frag} {mg : Str → Option Value} (T : Tx K mg) : BK K T.d_Ratio___repr__ ["self"] 1 [] [0] [] := bk0 T.F_Ratio___repr__ 1 [] [0] (fun _ _ _ _ _ _ us ws hu hw => match us, hu, ws, hw with | [_], _, [], _ => rfl)
abbrev bk_Ratio___repr__ := @bk_Ratio___repr___0
theorem bk_Ratio_top_0 {K : PySem.W.Frag} {mg : Str → Option Value} (T : Tx K mg) : BK K T.d_Ratio_top ["self"] 1 [] [0] [] := bk0 T.F_Ratio_top 1 [] [0] (fun _ _ _ _ _ _ us ws hu hw => match us, hu, ws, hw with | [_], _, [], _ => rfl)
abbrev bk_Ratio_top := @bk_Ratio_top_0
theorem bk_Ratio_bottom_0 {K : PySem.W.Frag} {mg : Str → Option Value} (T : Tx K mg) : BK K T.d_Ratio_bottom ["self"] 1 [] [0] [] := bk0 T.F_Ratio_bottom 1 [] [0] (fun _ _ _ _ _ _ us ws hu hw => match us, hu, ws, hw with | [_], _, [], _ => rfl)
abbrev bk_Ratio_bottom := @bk_Ratio_bottom_0
theorem bk_Ratio_sign_0 {K : PySem.W.Frag} {mg : Str → Option Value} (T : Tx K mg) : BK K T.d_Ratio_sign ["self"] 1 [] [0] [] := bk0 T.F_Ratio_sign 1 [] [0] (fun _ _ _ _ _ _ us ws hu hw => match us, hu, ws, hw with | [_], _, [], _ => rfl)
abbrev bk_Ratio_sign := @bk_Ratio_sign_0
theorem bk_Ratio_is_whole_0 {K : PySem.W.Frag} {mg : Str → Option Value} (T : Tx K mg) : BK K T.d_Ratio_is_whole ["self"] 1 [] [0] [] := bk0 T.F_Ratio_is_whole 1 [] [0] (fun _ _ _ _ _ _ us ws hu hw => match us, hu, ws, hw with | [_], _, [], _ => rfl)
abbrev bk_Ratio_is_whole := @bk_Ratio_is_whole_0
theorem bk_divisor_of_2 {K : PySem.W.Frag} {mg : Str → Option Value} (T : Tx K mg) : BK K T.d_divisor_of ["one", "other"] 2 [] [0, 1] [] := bk0 T.F_divisor_of 2 [] [0, 1] (fun _ _ _ _ _ _ us ws hu hw => match us, hu, ws, hw with | [_, _], _, [], _ => rfl)
theorem bk_is_integer_1 {K : PySem.W.Frag} {mg : Str → Option Value} (T : Tx K mg) : BK K T.d_is_integer ["value"] 1 [] [0] [] := bk0 T.F_is_integer 1 [] [0] (fun _ _ _ _ _ _ us ws hu hw => match us, hu, ws, hw with | [_], _, [], _ => rfl)
theorem bk_Ratio___init___2 {K : PySem.W.Frag} {mg : Str → Option Value} (T : Tx K mg) : ∃ ds0, Vals [V.int 1] ds0 ∧ BK K T.d_Ratio___init__ ["self", "top", "bottom"] 3 [] [0, 1, 2] ds0 := bk1 T.F_Ratio___init__ (by simp) 3 [] [0, 1, 2] (fun _ _ _ _ _ _ _ us ws its hu hw hi => match us, hu, ws, hw, its, hi with | [_, _, _], _, [], _, [_], _ => ⟨_, rfl, rfl⟩)
theorem bk_told_pair_1 {K : PySem.W.Frag} {mg : Str → Option Value} (T : Tx K mg) : BK K T.d_told_pair ["value"] 1 [] [0] [] := bk0 T.F_told_pair 1 [] [0] (fun _ _ _ _ _ _ us ws hu hw => match us, hu, ws, hw with | [_], _, [], _ => rfl)
theorem bk_digits_of_1 {K : PySem.W.Frag} {mg : Str → Option Value} (T : Tx K mg) : BK K T.d_digits_of ["number"] 1 [] [0] [] := bk0 T.F_digits_of 1 [] [0] (fun _ _ _ _ _ _ us ws hu hw => match us, hu, ws, hw with | [_], _, [], _ => rfl)
theorem bk_Ratio___init___1 {K : PySem.W.Frag} {mg : Str → Option Value} (T : Tx K mg) : ∃ ds0, Vals [V.int 1] ds0 ∧ BK K T.d_Ratio___init__ ["self", "top", "bottom"] 2 [] [0, 1, 2] ds0 := bk1 T.F_Ratio___init__ (by simp) 2 [] [0, 1, 2] (fun _ _ _ _ _ _ _ us ws its hu hw hi => match us, hu, ws, hw, its, hi with | [_, _], _, [], _, [_], _ => ⟨_, rfl, rfl⟩)
theorem bk_ratio_of_1 {K : PySem.W.Frag} {mg : Str → Option Value} (T : Tx K mg) : BK K T.d_ratio_of ["number"] 1 [] [0] [] := bk0 T.F_ratio_of 1 [] [0] (fun _ _ _ _ _ _ us ws hu hw => match us, hu, ws, hw with | [_], _, [], _ => rfl)
theorem bk_is_number_1 {K : PySem.W.Frag} {mg : Str → Option Value} (T : Tx K mg) : BK K T.d_is_number ["value"] 1 [] [0] [] := bk0 T.F_is_number 1 [] [0] (fun _ _ _ _ _ _ us ws hu hw => match us, hu, ws, hw with | [_], _, [], _ => rfl)
theorem bk_want_number_1 {K : PySem.W.Frag} {mg : Str → Option Value} (T : Tx K mg) : BK K T.d_want_number ["value"] 1 [] [0] [] := bk0 T.F_want_number 1 [] [0] (fun _ _ _ _ _ _ us ws hu hw => match us, hu, ws, hw with | [_], _, [], _ => rfl)
theorem bk_total_of_1 {K : PySem.W.Frag} {mg : Str → Option Value} (T : Tx K mg) : BK K T.d_total_of ["ratios"] 1 [] [0] [] := bk0 T.F_total_of 1 [] [0] (fun _ _ _ _ _ _ us ws hu hw => match us, hu, ws, hw with | [_], _, [], _ => rfl)
theorem bk_is_list_1 {K : PySem.W.Frag} {mg : Str → Option Value} (T : Tx K mg) : BK K T.d_is_list ["value"] 1 [] [0] [] := bk0 T.F_is_list 1 [] [0] (fun _ _ _ _ _ _ us ws hu hw => match us, hu, ws, hw with | [_], _, [], _ => rfl)
theorem bk__law_draw_2 {K : PySem.W.Frag} {mg : Str → Option Value} (T : Tx K mg) : BK K T.d__law_draw ["_law_pot_here", "_law_size"] 2 [] [0, 1] [] := bk0 T.F__law_draw 2 [] [0, 1] (fun _ _ _ _ _ _ us ws hu hw => match us, hu, ws, hw with | [_, _], _, [], _ => rfl)
theorem bk__law_top_1 {K : PySem.W.Frag} {mg : Str → Option Value} (T : Tx K mg) : BK K T.d__law_top ["_law_pot_here"] 1 [] [0] [] := bk0 T.F__law_top 1 [] [0] (fun _ _ _ _ _ _ us ws hu hw => match us, hu, ws, hw with | [_], _, [], _ => rfl)
theorem bk_Ratio_size_0 {K : PySem.W.Frag} {mg : Str → Option Value} (T : Tx K mg) : BK K T.d_Ratio_size ["self"] 1 [] [0] [] := bk0 T.F_Ratio_size 1 [] [0] (fun _ _ _ _ _ _ us ws hu hw => match us, hu, ws, hw with | [_], _, [], _ => rfl)
theorem bk__law_common_2 {K : PySem.W.Frag} {mg : Str → Option Value} (T : Tx K mg) : BK K T.d__law_common ["_law_one", "_law_other"] 2 [] [0, 1] [] := bk0 T.F__law_common 2 [] [0, 1] (fun _ _ _ _ _ _ us ws hu hw => match us, hu, ws, hw with | [_, _], _, [], _ => rfl)
theorem bk_Ratio_is_below_0_other {K : PySem.W.Frag} {mg : Str → Option Value} (T : Tx K mg) : BK K T.d_Ratio_is_below ["self", "other"] 1 ["other"] [0, 1] [] := bk0 T.F_Ratio_is_below 1 ["other"] [0, 1] (fun _ _ _ _ _ _ us ws hu hw => match us, hu, ws, hw with | [_], _, [_], _ => rfl)
theorem bk_Ratio_is_at_most_1 {K : PySem.W.Frag} {mg : Str → Option Value} (T : Tx K mg) : BK K T.d_Ratio_is_at_most ["self", "other"] 2 [] [0, 1] [] := bk0 T.F_Ratio_is_at_most 2 [] [0, 1] (fun _ _ _ _ _ _ us ws hu hw => match us, hu, ws, hw with | [_, _], _, [], _ => rfl)
theorem bk_Ratio_is_below_1 {K : PySem.W.Frag} {mg : Str → Option Value} (T : Tx K mg) : BK K T.d_Ratio_is_below ["self", "other"] 2 [] [0, 1] [] := bk0 T.F_Ratio_is_below 2 [] [0, 1] (fun _ _ _ _ _ _ us ws hu hw => match us, hu, ws, hw with | [_, _], _, [], _ => rfl)
theorem bk_Ratio_over_0_other {K : PySem.W.Frag} {mg : Str → Option Value} (T : Tx K mg) : BK K T.d_Ratio_over ["self", "other"] 1 ["other"] [0, 1] [] := bk0 T.F_Ratio_over 1 ["other"] [0, 1] (fun _ _ _ _ _ _ us ws hu hw => match us, hu, ws, hw with | [_], _, [_], _ => rfl)
theorem bk__law_is_3 {K : PySem.W.Frag} {mg : Str → Option Value} (T : Tx K mg) : BK K T.d__law_is ["_law_ratio", "_law_top_here", "_law_bottom"] 3 [] [0, 1, 2] [] := bk0 T.F__law_is 3 [] [0, 1, 2] (fun _ _ _ _ _ _ us ws hu hw => match us, hu, ws, hw with | [_, _, _], _, [], _ => rfl)
theorem bk_Ratio___init___0_top_bottom {K : PySem.W.Frag} {mg : Str → Option Value} (T : Tx K mg) : ∃ ds0, Vals [V.int 1] ds0 ∧ BK K T.d_Ratio___init__ ["self", "top", "bottom"] 1 ["top", "bottom"] [0, 1, 2] ds0 := bk1 T.F_Ratio___init__ (by simp) 1 ["top", "bottom"] [0, 1, 2] (fun _ _ _ _ _ _ _ us ws its hu hw hi => match us, hu, ws, hw, its, hi with | [_], _, [_, _], _, [_], _ => ⟨_, rfl, rfl⟩)
theorem bk_Ratio_over_1 {K : PySem.W.Frag} {mg : Str → Option Value} (T : Tx K mg) : BK K T.d_Ratio_over ["self", "other"] 2 [] [0, 1] [] := bk0 T.F_Ratio_over 2 [] [0, 1] (fun _ _ _ _ _ _ us ws hu hw => match us, hu, ws, hw with | [_, _], _, [], _ => rfl)
theorem bk_Ratio_total_0_numbers {K : PySem.W.Frag} {mg : Str → Option Value} (T : Tx K mg) : BK K T.d_Ratio_total ["cls", "numbers"] 1 ["numbers"] [0, 1] [] := bk0 T.F_Ratio_total 1 ["numbers"] [0, 1] (fun _ _ _ _ _ _ us ws hu hw => match us, hu, ws, hw with | [_], _, [_], _ => rfl)
theorem bk_Ratio_total_1 {K : PySem.W.Frag} {mg : Str → Option Value} (T : Tx K mg) : BK K T.d_Ratio_total ["cls", "numbers"] 2 [] [0, 1] [] := bk0 T.F_Ratio_total 2 [] [0, 1] (fun _ _ _ _ _ _ us ws hu hw => match us, hu, ws, hw with | [_, _], _, [], _ => rfl)
theorem bk__law_whole_1 {K : PySem.W.Frag} {mg : Str → Option Value} (T : Tx K mg) : BK K T.d__law_whole ["_law_pot_here"] 1 [] [0] [] := bk0 T.F__law_whole 1 [] [0] (fun _ _ _ _ _ _ us ws hu hw => match us, hu, ws, hw with | [_], _, [], _ => rfl)
theorem bk__law_pick_2 {K : PySem.W.Frag} {mg : Str → Option Value} (T : Tx K mg) : BK K T.d__law_pick ["_law_pot_here", "_law_some"] 2 [] [0, 1] [] := bk0 T.F__law_pick 2 [] [0, 1] (fun _ _ _ _ _ _ us ws hu hw => match us, hu, ws, hw with | [_, _], _, [], _ => rfl)
theorem bk__law_pot_2 {K : PySem.W.Frag} {mg : Str → Option Value} (T : Tx K mg) : BK K T.d__law_pot ["_law_script", "_law_k"] 2 [] [0, 1] [] := bk0 T.F__law_pot 2 [] [0, 1] (fun _ _ _ _ _ _ us ws hu hw => match us, hu, ws, hw with | [_, _], _, [], _ => rfl)
theorem bk__law_total_right_2 {K : PySem.W.Frag} {mg : Str → Option Value} (T : Tx K mg) : BK K T.d__law_total_right ["_law_pot_here", "_law_pairs"] 2 [] [0, 1] [] := bk0 T.F__law_total_right 2 [] [0, 1] (fun _ _ _ _ _ _ us ws hu hw => match us, hu, ws, hw with | [_, _], _, [], _ => rfl)
theorem bk__law_whole_right_2 {K : PySem.W.Frag} {mg : Str → Option Value} (T : Tx K mg) : BK K T.d__law_whole_right ["_law_one", "_law_whole_here"] 2 [] [0, 1] [] := bk0 T.F__law_whole_right 2 [] [0, 1] (fun _ _ _ _ _ _ us ws hu hw => match us, hu, ws, hw with | [_, _], _, [], _ => rfl)
theorem bk__law_two_right_2 {K : PySem.W.Frag} {mg : Str → Option Value} (T : Tx K mg) : BK K T.d__law_two_right ["_law_one", "_law_other"] 2 [] [0, 1] [] := bk0 T.F__law_two_right 2 [] [0, 1] (fun _ _ _ _ _ _ us ws hu hw => match us, hu, ws, hw with | [_, _], _, [], _ => rfl)
theorem bk__law_pair_1 {K : PySem.W.Frag} {mg : Str → Option Value} (T : Tx K mg) : BK K T.d__law_pair ["_law_pot_here"] 1 [] [0] [] := bk0 T.F__law_pair 1 [] [0] (fun _ _ _ _ _ _ us ws hu hw => match us, hu, ws, hw with | [_], _, [], _ => rfl)
def b_is_integer (CR : Addr) : S → Option Fl :=
    (gSeq (gRet (eAnd (eIsi (kInt [CR]) (eVarB 0)) (eNot (eIsi (kBool [CR]) (eVarB 0)))))
    gNil)
def c_is_integer (CR : Addr) : Fn := fnB 1 (b_is_integer CR)
def b_is_list (CR : Addr) : S → Option Fl :=
    (gSeq (gRet (eIsi (kSeq [CR]) (eVarB 0)))
    gNil)
def c_is_list (CR : Addr) : Fn := fnB 1 (b_is_list CR)
def b_digits_of (CR : Addr) : S → Option Fl :=
    (gSeq (gPar 1 2 (aCons (eIf (eT (e2 gGe (eVarB 0) (eC (.int 0)))) (eVar 0) (e2 gSub (eC (.int 0)) (eVarB 0))) (aCons (eC (.str "")) aNil)))
    (gSeq (gWhile (eT (e2 gGe (eVarB 1) (eC (.int 1000000000000000000000000000000000000000000000000000000000000)))) (gSeq (gAsg (e2 gAdd (e2 gMod (eL gInt (aCons (eVarB 1) aNil)) (eC (.int 1000000000000000000000000000000000000000000000000000000000000))) (eC (.int 1000000000000000000000000000000000000000000000000000000000000))) (tgName 3))
    (gSeq (gAsg (eJoin [(eFmt (eCutS (e1 gTxt (eVar 3)) (some (eC (.int 1))) none)), (eFmt (eVar 2))]) (tgName 2))
    (gSeq (gAsg (e2 gFdiv (eVarB 1) (eC (.int 1000000000000000000000000000000000000000000000000000000000000))) (tgName 1))
    gNil))) 20)
    (gSeq (gAsg (eIf (eT (e2 gLt (eVarB 0) (eC (.int 0)))) (eC (.str "-")) (eC (.str ""))) (tgName 4))
    (gSeq (gRet (eJoin [(eFmt (eVar 4)), (eFmt (eVar 1)), (eFmt (eVar 2))]))
    gNil))))
def c_digits_of (CR : Addr) : Fn := fnB 5 (b_digits_of CR)
def b_divisor_of (CR : Addr) : S → Option Fl :=
    (gSeq (gRet (eL gGcd (aCons (eVarB 0) (aCons (eVarB 1) aNil))))
    gNil)
def c_divisor_of (CR : Addr) : Fn := fnB 2 (b_divisor_of CR)
def b_Ratio___init__ (CR : Addr) : Si → Option Si :=
    (jSeq (jIf (eNotT (eT (eCall (c_is_integer CR) [0] [] (aCons (eVar 1) aNil)))) (fun _ => none) jNil)
    (jSeq (jIf (eOrT (eNotT (eT (eCall (c_is_integer CR) [0] [] (aCons (eVar 2) aNil)))) (eT (e2 (gSEq false) (eVarB 2) (eC (.int 0))))) (fun _ => none) jNil)
    (jSeq (jSet 2 (eCall (c_divisor_of CR) [0, 1] [] (aCons (eVar 1) (aCons (eVar 2) aNil))))
    (jSeq (jIf (eT (e2 gLt (eVarB 2) (eC (.int 0)))) (jSeq (jSet 2 (e2 gSub (eC (.int 0)) (eVarB 3)))
    jNil) jNil)
    (jSeq (jFld "own_top" (e2 gFdiv (eVarB 1) (eVarB 3)))
    (jSeq (jFld "own_bottom" (e2 gFdiv (eVarB 2) (eVarB 3)))
    jNil))))))
def c_Ratio___init__ (CR : Addr) : Fn := fnI 4 CR (b_Ratio___init__ CR)
def b_Ratio_top (CR : Addr) : S → Option Fl :=
    (gSeq (gRet (eFld CR 0 "own_top" (eVarB 0)))
    gNil)
def c_Ratio_top (CR : Addr) : Fn := fnB 1 (b_Ratio_top CR)
def b_Ratio_bottom (CR : Addr) : S → Option Fl :=
    (gSeq (gRet (eFld CR 1 "own_bottom" (eVarB 0)))
    gNil)
def c_Ratio_bottom (CR : Addr) : Fn := fnB 1 (b_Ratio_bottom CR)
def b_Ratio_sign (CR : Addr) : S → Option Fl :=
    (gSeq (gRet (e2 gSub (eL gInt (aCons (e2 gGt (eFld CR 0 "own_top" (eVarB 0)) (eC (.int 0))) aNil)) (eL gInt (aCons (e2 gLt (eFld CR 0 "own_top" (eVarB 0)) (eC (.int 0))) aNil))))
    gNil)
def c_Ratio_sign (CR : Addr) : Fn := fnB 1 (b_Ratio_sign CR)
def b_Ratio_is_whole (CR : Addr) : S → Option Fl :=
    (gSeq (gRet (e2 (gSEq false) (eFld CR 1 "own_bottom" (eVarB 0)) (eC (.int 1))))
    gNil)
def c_Ratio_is_whole (CR : Addr) : Fn := fnB 1 (b_Ratio_is_whole CR)
def b_told_pair (CR : Addr) : S → Option Fl :=
    (gSeq (gIf (eT (eIsi (kCls [CR] CR) (eVarB 0))) (gSeq (gRet (eTup (aCons (eFld CR 0 "own_top" (eVarB 0)) (aCons (eFld CR 1 "own_bottom" (eVarB 0)) aNil))))
    gNil) gNil)
    (gSeq (gIf (eNotT (eT (eCall (c_is_integer CR) [0] [] (aCons (eVar 0) aNil)))) (gSeq (fun _ => none)
    gNil) gNil)
    (gSeq (gRet (eTup (aCons (eVar 0) (aCons (eC (.int 1)) aNil))))
    gNil)))
def c_told_pair (CR : Addr) : Fn := fnB 1 (b_told_pair CR)
def b_Ratio___add__ (CR : Addr) : S → Option Fl :=
    (gSeq (gAsg (eCall (c_told_pair CR) [0] [] (aCons (eVar 1) aNil)) (tgTup 2 (tgCons (tgName 2) (tgCons (tgName 3) tgNil))))
    (gSeq (gRet (eCall (c_Ratio___init__ CR) [0, 1] [.int 1] (aCons (e2 gAdd (e2 gMul (eFld CR 0 "own_top" (eVarB 0)) (eVarB 3)) (e2 gMul (eVarB 2) (eFld CR 1 "own_bottom" (eVarB 0)))) (aCons (e2 gMul (eFld CR 1 "own_bottom" (eVarB 0)) (eVarB 3)) aNil))))
    gNil))
def c_Ratio___add__ (CR : Addr) : Fn := fnB 4 (b_Ratio___add__ CR)
def b_Ratio___radd__ (CR : Addr) : S → Option Fl :=
    (gSeq (gAsg (eCall (c_told_pair CR) [0] [] (aCons (eVar 1) aNil)) (tgTup 2 (tgCons (tgName 2) (tgCons (tgName 3) tgNil))))
    (gSeq (gRet (eCall (c_Ratio___init__ CR) [0, 1] [.int 1] (aCons (e2 gAdd (e2 gMul (eFld CR 0 "own_top" (eVarB 0)) (eVarB 3)) (e2 gMul (eVarB 2) (eFld CR 1 "own_bottom" (eVarB 0)))) (aCons (e2 gMul (eFld CR 1 "own_bottom" (eVarB 0)) (eVarB 3)) aNil))))
    gNil))
def c_Ratio___radd__ (CR : Addr) : Fn := fnB 4 (b_Ratio___radd__ CR)
def b_Ratio___sub__ (CR : Addr) : S → Option Fl :=
    (gSeq (gAsg (eCall (c_told_pair CR) [0] [] (aCons (eVar 1) aNil)) (tgTup 2 (tgCons (tgName 2) (tgCons (tgName 3) tgNil))))
    (gSeq (gRet (eCall (c_Ratio___init__ CR) [0, 1] [.int 1] (aCons (e2 gSub (e2 gMul (eFld CR 0 "own_top" (eVarB 0)) (eVarB 3)) (e2 gMul (eVarB 2) (eFld CR 1 "own_bottom" (eVarB 0)))) (aCons (e2 gMul (eFld CR 1 "own_bottom" (eVarB 0)) (eVarB 3)) aNil))))
    gNil))
def c_Ratio___sub__ (CR : Addr) : Fn := fnB 4 (b_Ratio___sub__ CR)
def b_Ratio___rsub__ (CR : Addr) : S → Option Fl :=
    (gSeq (gAsg (eCall (c_told_pair CR) [0] [] (aCons (eVar 1) aNil)) (tgTup 2 (tgCons (tgName 2) (tgCons (tgName 3) tgNil))))
    (gSeq (gRet (eCall (c_Ratio___init__ CR) [0, 1] [.int 1] (aCons (e2 gSub (e2 gMul (eVarB 2) (eFld CR 1 "own_bottom" (eVarB 0))) (e2 gMul (eFld CR 0 "own_top" (eVarB 0)) (eVarB 3))) (aCons (e2 gMul (eFld CR 1 "own_bottom" (eVarB 0)) (eVarB 3)) aNil))))
    gNil))
def c_Ratio___rsub__ (CR : Addr) : Fn := fnB 4 (b_Ratio___rsub__ CR)
def b_Ratio___mul__ (CR : Addr) : S → Option Fl :=
    (gSeq (gAsg (eCall (c_told_pair CR) [0] [] (aCons (eVar 1) aNil)) (tgTup 2 (tgCons (tgName 2) (tgCons (tgName 3) tgNil))))
    (gSeq (gRet (eCall (c_Ratio___init__ CR) [0, 1] [.int 1] (aCons (e2 gMul (eFld CR 0 "own_top" (eVarB 0)) (eVarB 2)) (aCons (e2 gMul (eFld CR 1 "own_bottom" (eVarB 0)) (eVarB 3)) aNil))))
    gNil))
def c_Ratio___mul__ (CR : Addr) : Fn := fnB 4 (b_Ratio___mul__ CR)
def b_Ratio___rmul__ (CR : Addr) : S → Option Fl :=
    (gSeq (gAsg (eCall (c_told_pair CR) [0] [] (aCons (eVar 1) aNil)) (tgTup 2 (tgCons (tgName 2) (tgCons (tgName 3) tgNil))))
    (gSeq (gRet (eCall (c_Ratio___init__ CR) [0, 1] [.int 1] (aCons (e2 gMul (eFld CR 0 "own_top" (eVarB 0)) (eVarB 2)) (aCons (e2 gMul (eFld CR 1 "own_bottom" (eVarB 0)) (eVarB 3)) aNil))))
    gNil))
def c_Ratio___rmul__ (CR : Addr) : Fn := fnB 4 (b_Ratio___rmul__ CR)
def b_Ratio___neg__ (CR : Addr) : S → Option Fl :=
    (gSeq (gRet (eCall (c_Ratio___init__ CR) [0, 1] [.int 1] (aCons (e2 gSub (eC (.int 0)) (eFld CR 0 "own_top" (eVarB 0))) (aCons (eFld CR 1 "own_bottom" (eVarB 0)) aNil))))
    gNil)
def c_Ratio___neg__ (CR : Addr) : Fn := fnB 1 (b_Ratio___neg__ CR)
def b_Ratio_over (CR : Addr) : S → Option Fl :=
    (gSeq (gAsg (eCall (c_told_pair CR) [0] [] (aCons (eVar 1) aNil)) (tgTup 2 (tgCons (tgName 2) (tgCons (tgName 3) tgNil))))
    (gSeq (gIf (eT (e2 (gSEq false) (eVarB 2) (eC (.int 0)))) (gSeq (fun _ => none)
    gNil) gNil)
    (gSeq (gRet (eCall (c_Ratio___init__ CR) [0, 1] [.int 1] (aCons (e2 gMul (eFld CR 0 "own_top" (eVarB 0)) (eVarB 3)) (aCons (e2 gMul (eFld CR 1 "own_bottom" (eVarB 0)) (eVarB 2)) aNil))))
    gNil)))
def c_Ratio_over (CR : Addr) : Fn := fnB 4 (b_Ratio_over CR)
def b_Ratio_size (CR : Addr) : S → Option Fl :=
    (gSeq (gRet (eCall (c_Ratio___init__ CR) [0, 1] [.int 1] (aCons (eL (gI1 fun i => if i < 0 then -i else i) (aCons (eFld CR 0 "own_top" (eVarB 0)) aNil)) (aCons (eFld CR 1 "own_bottom" (eVarB 0)) aNil))))
    gNil)
def c_Ratio_size (CR : Addr) : Fn := fnB 1 (b_Ratio_size CR)
def b_Ratio_is_below (CR : Addr) : S → Option Fl :=
    (gSeq (gAsg (eCall (c_told_pair CR) [0] [] (aCons (eVar 1) aNil)) (tgTup 2 (tgCons (tgName 2) (tgCons (tgName 3) tgNil))))
    (gSeq (gRet (e2 gLt (e2 gMul (eFld CR 0 "own_top" (eVarB 0)) (eVarB 3)) (e2 gMul (eVarB 2) (eFld CR 1 "own_bottom" (eVarB 0)))))
    gNil))
def c_Ratio_is_below (CR : Addr) : Fn := fnB 4 (b_Ratio_is_below CR)
def b_Ratio_is_at_most (CR : Addr) : S → Option Fl :=
    (gSeq (gAsg (eCall (c_told_pair CR) [0] [] (aCons (eVar 1) aNil)) (tgTup 2 (tgCons (tgName 2) (tgCons (tgName 3) tgNil))))
    (gSeq (gRet (e2 gLe (e2 gMul (eFld CR 0 "own_top" (eVarB 0)) (eVarB 3)) (e2 gMul (eVarB 2) (eFld CR 1 "own_bottom" (eVarB 0)))))
    gNil))
def c_Ratio_is_at_most (CR : Addr) : Fn := fnB 4 (b_Ratio_is_at_most CR)
def b_Ratio___eq__ (CR : Addr) : S → Option Fl :=
    (gSeq (gIf (eNotT (eT (eIsi (kCls [CR] CR) (eVarB 1)))) (gSeq (gRet (eC (.bl false)))
    gNil) gNil)
    (gSeq (gRet (eAnd (e2 (gSEq false) (eFld CR 0 "own_top" (eVarB 0)) (eFld CR 0 "own_top" (eVarB 1))) (e2 (gSEq false) (eFld CR 1 "own_bottom" (eVarB 0)) (eFld CR 1 "own_bottom" (eVarB 1)))))
    gNil))
def c_Ratio___eq__ (CR : Addr) : Fn := fnB 2 (b_Ratio___eq__ CR)
def b_Ratio___str__ (CR : Addr) : S → Option Fl :=
    (gSeq (gIf (eT (e2 (gSEq false) (eFld CR 1 "own_bottom" (eVarB 0)) (eC (.int 1)))) (gSeq (gRet (eFmt (eCall (c_digits_of CR) [0] [] (aCons (eFld CR 0 "own_top" (eVarB 0)) aNil))))
    gNil) gNil)
    (gSeq (gRet (eJoin [(eFmt (eCall (c_digits_of CR) [0] [] (aCons (eFld CR 0 "own_top" (eVarB 0)) aNil))), (eC (.str "/")), (eFmt (eCall (c_digits_of CR) [0] [] (aCons (eFld CR 1 "own_bottom" (eVarB 0)) aNil)))]))
    gNil))
def c_Ratio___str__ (CR : Addr) : Fn := fnB 1 (b_Ratio___str__ CR)
def b_Ratio___repr__ (CR : Addr) : S → Option Fl :=
    (gSeq (gRet (eJoin [(eC (.str "Ratio(")), (eFmt (eCall (c_digits_of CR) [0] [] (aCons (eFld CR 0 "own_top" (eVarB 0)) aNil))), (eC (.str ", ")), (eFmt (eCall (c_digits_of CR) [0] [] (aCons (eFld CR 1 "own_bottom" (eVarB 0)) aNil))), (eC (.str ")"))]))
    gNil)
def c_Ratio___repr__ (CR : Addr) : Fn := fnB 1 (b_Ratio___repr__ CR)
def b_is_number (CR : Addr) : S → Option Fl :=
    (gSeq (gRet (eOr (eCall (c_is_integer CR) [0] [] (aCons (eVar 0) aNil)) (eIsi (kCls [CR] CR) (eVarB 0))))
    gNil)
def c_is_number (CR : Addr) : Fn := fnB 1 (b_is_number CR)
def b_ratio_of (CR : Addr) : S → Option Fl :=
    (gSeq (gRet (eIf (eT (eIsi (kCls [CR] CR) (eVarB 0))) (eVar 0) (eCall (c_Ratio___init__ CR) [0, 1] [.int 1] (aCons (eVar 0) aNil))))
    gNil)
def c_ratio_of (CR : Addr) : Fn := fnB 1 (b_ratio_of CR)
def b_want_number (CR : Addr) : S → Option Fl :=
    (gSeq (gIf (eNotT (eT (eCall (c_is_number CR) [0] [] (aCons (eVar 0) aNil)))) (gSeq (fun _ => none)
    gNil) gNil)
    (gSeq (gRet (eCall (c_ratio_of CR) [0] [] (aCons (eVar 0) aNil)))
    gNil))
def c_want_number (CR : Addr) : Fn := fnB 1 (b_want_number CR)
def b_total_of (CR : Addr) : S → Option Fl :=
    (gSeq (gAsg (eCall (c_Ratio___init__ CR) [0, 1] [.int 1] (aCons (eC (.int 0)) aNil)) (tgName 1))
    (gSeq (gFor (iL (eVar 0)) (tgName 2) (gSeq (gAsg (e2 (gOwn2 CR (cf_Ratio___add__ CR) (cf_Ratio___radd__ CR)) (eVar 1) (eVar 2)) (tgName 1))
    gNil))
    (gSeq (gRet (eVar 1))
    gNil)))
def c_total_of (CR : Addr) : Fn := fnB 3 (b_total_of CR)
def b_Ratio_total (CR : Addr) : S → Option Fl :=
    (gSeq (gIf (eNotT (eT (eCall (c_is_list CR) [0] [] (aCons (eVar 1) aNil)))) (gSeq (fun _ => none)
    gNil) gNil)
    (gSeq (gRet (eCall (c_total_of CR) [0] [] (aCons (eComp [2] (iL (eVar 1)) (tgName 2) cYes (eCall (c_want_number CR) [0] [] (aCons (eVar 2) aNil))) aNil)))
    gNil))
def c_Ratio_total (CR : Addr) : Fn := fnC 3 (b_Ratio_total CR)
def b_Ratio_total_tup (CR : Addr) : S → Option Fl :=
    (gSeq (gIf (eNotT (eT (eCall (c_is_list CR) [0] [] (aCons (eVar 1) aNil)))) (gSeq (fun _ => none)
    gNil) gNil)
    (gSeq (gRet (eCall (c_total_of CR) [0] [] (aCons (eComp [2] (iT (eVar 1)) (tgName 2) cYes (eCall (c_want_number CR) [0] [] (aCons (eVar 2) aNil))) aNil)))
    gNil))
def c_Ratio_total_tup (CR : Addr) : Fn := fnC 3 (b_Ratio_total_tup CR)
def b__law_pot (CR : Addr) : S → Option (D × Pt) :=
    (qSeq (gAsg (e2 gAdd (e2 gMul (eC (.int 839)) (eVarB 1)) (eC (.int 569))) (tgName 2))
    (qSeq (gIf (eT (e2 gLt (eVarB 1) (eL gLen (aCons (eVarB 0) aNil)))) (gSeq (gAsg (eL (gI1 fun i => if i < 0 then -i else i) (aCons (e2 gIx (eVarB 0) (eVarB 1)) aNil)) (tgName 2))
    gNil) gNil)
    (qRet (eLst (aCons (eL (gI2 fun i j => if j > i then j else i) (aCons (eC (.int 0)) (aCons (e2 gSub (eVarB 2) (e2 gPow (eC (.int 10)) (eC (.int 18)))) aNil))) (aCons (e2 gAdd (e2 gMod (eL gInt (aCons (e2 gAdd (e2 gMul (e2 gMod (eL gInt (aCons (eVarB 2) aNil)) (eC (.int 2147483549))) (e2 gAdd (e2 gMul (eC (.int 2)) (eVarB 1)) (eC (.int 491)))) (eC (.int 1277))) aNil)) (eC (.int 2147483543))) (eC (.int 1))) aNil))))))
def c__law_pot (CR : Addr) : Fn := fnR 3 (b__law_pot CR)
def b__law_draw (CR : Addr) : S → Option Fl :=
    (gSeq (gIf (eT (e2 gGt (ePot 0 0) (eC (.int 0)))) (gSeq (gAsg (eL gDivmod (aCons (ePot 0 0) (aCons (eVarB 1) aNil))) (tgTup 2 (tgCons (tgPot 0 0) (tgCons (tgName 2) tgNil))))
    (gSeq (gRet (eVar 2))
    gNil)) gNil)
    (gSeq (gAsg (e2 gMod (eL gInt (aCons (e2 gAdd (e2 gMul (ePot 0 1) (eC (.int 48271))) (eC (.int 18521))) aNil)) (eC (.int 2147483587))) (tgPot 0 1))
    (gSeq (gRet (e2 gMod (eL gInt (aCons (e2 gFdiv (e2 gMod (eL gInt (aCons (e2 gMul (ePot 0 1) (ePot 0 1)) aNil)) (eC (.int 2147483549))) (eC (.int 13))) aNil)) (eVarB 1)))
    gNil)))
def c__law_draw (CR : Addr) : Fn := fnB 3 (b__law_draw CR)
def b__law_pick (CR : Addr) : S → Option Fl :=
    (gSeq (gRet (e2 gIx (eVarB 1) (eCall (c__law_draw CR) [0, 1] [] (aCons (eVar 0) (aCons (eL gLen (aCons (eVarB 1) aNil)) aNil)))))
    gNil)
def c__law_pick (CR : Addr) : Fn := fnB 2 (b__law_pick CR)
def b__law_top (CR : Addr) : S → Option Fl :=
    (gSeq (gAsg (eCall (c__law_draw CR) [0, 1] [] (aCons (eVar 0) (aCons (eC (.int 5)) aNil))) (tgName 1))
    (gSeq (gIf (eT (e2 gLt (eVarB 1) (eC (.int 3)))) (gSeq (gRet (e2 gSub (eCall (c__law_draw CR) [0, 1] [] (aCons (eVar 0) (aCons (eC (.int 25)) aNil))) (eC (.int 12))))
    gNil) gNil)
    (gSeq (gAsg (eC (.int 0)) (tgName 2))
    (gSeq (gFor (iR1 (aCons (eIf (eT (e2 (gSEq false) (eVarB 1) (eC (.int 3)))) (eC (.int 3)) (eC (.int 5))) aNil)) (tgName 3) (gSeq (gAsg (e2 gAdd (e2 gMul (eVarB 2) (e2 gPow (eC (.int 10)) (eC (.int 9)))) (eCall (c__law_draw CR) [0, 1] [] (aCons (eVar 0) (aCons (e2 gPow (eC (.int 10)) (eC (.int 9))) aNil)))) (tgName 2))
    gNil))
    (gSeq (gRet (eIf (eT (e2 (gSEq false) (eCall (c__law_draw CR) [0, 1] [] (aCons (eVar 0) (aCons (eC (.int 2)) aNil))) (eC (.int 0)))) (eVar 2) (e2 gSub (eC (.int 0)) (eVarB 2))))
    gNil)))))
def c__law_top (CR : Addr) : Fn := fnB 4 (b__law_top CR)
def b__law_whole (CR : Addr) : S → Option Fl :=
    (gSeq (gRet (eIf (eT (e2 (gSEq false) (eCall (c__law_draw CR) [0, 1] [] (aCons (eVar 0) (aCons (eC (.int 2)) aNil))) (eC (.int 0)))) (e2 gSub (eCall (c__law_draw CR) [0, 1] [] (aCons (eVar 0) (aCons (eC (.int 25)) aNil))) (eC (.int 12))) (e2 gSub (eCall (c__law_draw CR) [0, 1] [] (aCons (eVar 0) (aCons (eC (.int 1999999)) aNil))) (eC (.int 999999)))))
    gNil)
def c__law_whole (CR : Addr) : Fn := fnB 1 (b__law_whole CR)
def b__law_pair (CR : Addr) : S → Option Fl :=
    (gSeq (gAsg (eIf (eT (e2 (gSEq false) (eCall (c__law_draw CR) [0, 1] [] (aCons (eVar 0) (aCons (eC (.int 3)) aNil))) (eC (.int 0)))) (eCall (c__law_top CR) [0] [] (aCons (eVar 0) aNil)) (e2 gAdd (eC (.int 1)) (eCall (c__law_draw CR) [0, 1] [] (aCons (eVar 0) (aCons (eC (.int 12)) aNil))))) (tgName 1))
    (gSeq (gRet (eTup (aCons (eCall (c__law_top CR) [0] [] (aCons (eVar 0) aNil)) (aCons (eIf (eT (e2 (gSEq true) (eVarB 1) (eC (.int 0)))) (eVar 1) (eC (.int 5))) aNil))))
    gNil))
def c__law_pair (CR : Addr) : Fn := fnB 2 (b__law_pair CR)
def b__law_common (CR : Addr) : S → Option Fl :=
    (gSeq (gPar 2 3 (aCons (eL (gI1 fun i => if i < 0 then -i else i) (aCons (eVarB 0) aNil)) (aCons (eL (gI1 fun i => if i < 0 then -i else i) (aCons (eVarB 1) aNil)) aNil)))
    (gSeq (gWhile (eT (e2 gGt (eVarB 3) (eC (.int 0)))) (gSeq (gPar 2 3 (aCons (eVar 3) (aCons (e2 gMod (eVarB 2) (eVarB 3)) aNil)))
    gNil) 2000)
    (gSeq (gRet (eVar 2))
    gNil)))
def c__law_common (CR : Addr) : Fn := fnB 4 (b__law_common CR)
def b__law_is (CR : Addr) : S → Option Fl :=
    (gSeq (gIf (eOrT (eNotT (eT (eIsi (kCls [CR] CR) (eVarB 0)))) (eOrT (eT (e2 gLt (eP CR (c_Ratio_bottom CR) (eVar 0)) (eC (.int 1)))) (eOrT (eT (e2 (gSEq true) (e2 gMul (eP CR (c_Ratio_top CR) (eVar 0)) (eVarB 2)) (e2 gMul (eVarB 1) (eP CR (c_Ratio_bottom CR) (eVar 0))))) (eT (e2 (gSEq true) (eCall (c__law_common CR) [0, 1] [] (aCons (eP CR (c_Ratio_top CR) (eVar 0)) (aCons (eP CR (c_Ratio_bottom CR) (eVar 0)) aNil))) (eC (.int 1))))))) (gSeq (gRet (eC (.bl false)))
    gNil) gNil)
    (gSeq (gAsg (e2 gAdd (e1 gTxt (eP CR (c_Ratio_top CR) (eVar 0))) (eIf (eT (e2 (gSEq true) (eP CR (c_Ratio_bottom CR) (eVar 0)) (eC (.int 1)))) (e2 gAdd (eC (.str "/")) (e1 gTxt (eP CR (c_Ratio_bottom CR) (eVar 0)))) (eC (.str "")))) (tgName 3))
    (gSeq (gIf (eOrT (eT (e2 (gSEq true) (e1 (gOwnT CR (cf_Ratio___str__ CR)) (eVar 0)) (eVarB 3))) (eT (e2 (gSEq true) (e1 (gOwnT CR (cf_Ratio___repr__ CR)) (eVar 0)) (e2 gAdd (e2 gAdd (e2 gAdd (e2 gAdd (eC (.str "Ratio(")) (e1 gTxt (eP CR (c_Ratio_top CR) (eVar 0)))) (eC (.str ", "))) (e1 gTxt (eP CR (c_Ratio_bottom CR) (eVar 0)))) (eC (.str ")")))))) (gSeq (gRet (eC (.bl false)))
    gNil) gNil)
    (gSeq (gAsg (e2 gSub (eL gInt (aCons (e2 gGt (eP CR (c_Ratio_top CR) (eVar 0)) (eC (.int 0))) aNil)) (eL gInt (aCons (e2 gLt (eP CR (c_Ratio_top CR) (eVar 0)) (eC (.int 0))) aNil))) (tgName 4))
    (gSeq (gRet (eAnd (e2 (gSEq false) (e1 gReprL (eLst (aCons (eP CR (c_Ratio_sign CR) (eVar 0)) (aCons (eP CR (c_Ratio_is_whole CR) (eVar 0)) aNil)))) (e1 gReprL (eLst (aCons (eVar 4) (aCons (e2 (gSEq false) (eP CR (c_Ratio_bottom CR) (eVar 0)) (eC (.int 1))) aNil))))) (e2 (gEqD false (dqT (oe CR) 1)) (eM "size" CR (c_Ratio_size CR) [0] [] (eVar 0) aNil) (eCall (c_Ratio___init__ CR) [0, 1] [.int 1] (aCons (eL (gI1 fun i => if i < 0 then -i else i) (aCons (eP CR (c_Ratio_top CR) (eVar 0)) aNil)) (aCons (eP CR (c_Ratio_bottom CR) (eVar 0)) aNil))))))
    gNil)))))
def c__law_is (CR : Addr) : Fn := fnB 5 (b__law_is CR)
def b__law_two_right (CR : Addr) : S → Option Fl :=
    (gSeq (gPar 2 3 (aCons (eCall (c_Ratio___init__ CR) [0, 1] [.int 1] (aCons (e2 gIx (eVarB 0) (eC (.int 0))) (aCons (e2 gIx (eVarB 0) (eC (.int 1))) aNil))) (aCons (eCall (c_Ratio___init__ CR) [0, 1] [.int 1] (aCons (e2 gIx (eVarB 1) (eC (.int 0))) (aCons (e2 gIx (eVarB 1) (eC (.int 1))) aNil))) aNil)))
    (gSeq (gAsg (eTup (aCons (eVar 0) (aCons (eVar 1) aNil))) (tgTup 2 (tgCons (tgTup 2 (tgCons (tgName 4) (tgCons (tgName 5) tgNil))) (tgCons (tgTup 2 (tgCons (tgName 6) (tgCons (tgName 7) tgNil))) tgNil))))
    (gSeq (gIf (eOrT (eNotT (eT (eCall (c__law_is CR) [0, 1, 2] [] (aCons (eVar 2) (aCons (eVar 4) (aCons (eVar 5) aNil)))))) (eOrT (eNotT (eT (eCall (c__law_is CR) [0, 1, 2] [] (aCons (e2 (gOwn2 CR (cf_Ratio___add__ CR) (cf_Ratio___radd__ CR)) (eVar 2) (eVar 3)) (aCons (e2 gAdd (e2 gMul (eVarB 4) (eVarB 7)) (e2 gMul (eVarB 6) (eVarB 5))) (aCons (e2 gMul (eVarB 5) (eVarB 7)) aNil)))))) (eNotT (eT (eCall (c__law_is CR) [0, 1, 2] [] (aCons (e2 (gOwn2 CR (cf_Ratio___sub__ CR) (cf_Ratio___rsub__ CR)) (eVar 2) (eVar 3)) (aCons (e2 gSub (e2 gMul (eVarB 4) (eVarB 7)) (e2 gMul (eVarB 6) (eVarB 5))) (aCons (e2 gMul (eVarB 5) (eVarB 7)) aNil)))))))) (gSeq (gRet (eC (.bl false)))
    gNil) gNil)
    (gSeq (gIf (eOrT (eNotT (eT (eCall (c__law_is CR) [0, 1, 2] [] (aCons (e2 (gOwn2 CR (cf_Ratio___mul__ CR) (cf_Ratio___rmul__ CR)) (eVar 2) (eVar 3)) (aCons (e2 gMul (eVarB 4) (eVarB 6)) (aCons (e2 gMul (eVarB 5) (eVarB 7)) aNil)))))) (eNotT (eT (eCall (c__law_is CR) [0, 1, 2] [] (aCons (e1 (gOwn1 CR (cf_Ratio___neg__ CR)) (eVar 2)) (aCons (e2 gSub (eC (.int 0)) (eVarB 4)) (aCons (eVar 5) aNil))))))) (gSeq (gRet (eC (.bl false)))
    gNil) gNil)
    (gSeq (gIf (eAndT (eT (e2 (gSEq true) (eVarB 6) (eC (.int 0)))) (eNotT (eT (eCall (c__law_is CR) [0, 1, 2] [] (aCons (eM "over" CR (c_Ratio_over CR) [0, 1] [] (eVar 2) (aCons (eVar 3) aNil)) (aCons (e2 gMul (eVarB 4) (eVarB 7)) (aCons (e2 gMul (eVarB 5) (eVarB 6)) aNil))))))) (gSeq (gRet (eC (.bl false)))
    gNil) gNil)
    (gSeq (gAsg (e2 gMul (e2 gMul (e2 gSub (e2 gMul (eVarB 4) (eVarB 7)) (e2 gMul (eVarB 6) (eVarB 5))) (eVarB 5)) (eVarB 7)) (tgName 8))
    (gSeq (gAsg (eLst (aCons (eM "is_below" CR (c_Ratio_is_below CR) [0, 1] [] (eVar 2) (aCons (eVar 3) aNil)) (aCons (eM "is_at_most" CR (c_Ratio_is_at_most CR) [0, 1] [] (eVar 2) (aCons (eVar 3) aNil)) (aCons (eM "is_below" CR (c_Ratio_is_below CR) [0, 1] [] (eVar 3) (aCons (eVar 2) aNil)) (aCons (e2 (gEqD false (dqT (oe CR) 1)) (eVar 2) (eVar 3)) (aCons (e2 (gEqD true (dqT (oe CR) 1)) (eVar 2) (eVar 3)) aNil)))))) (tgName 9))
    (gSeq (gRet (e2 (gSEq false) (e1 gReprL (eVar 9)) (e1 gReprL (eLst (aCons (e2 gLt (eVarB 8) (eC (.int 0))) (aCons (e2 gLe (eVarB 8) (eC (.int 0))) (aCons (e2 gGt (eVarB 8) (eC (.int 0))) (aCons (e2 (gSEq false) (eVarB 8) (eC (.int 0))) (aCons (e2 (gSEq true) (eVarB 8) (eC (.int 0))) aNil)))))))))
    gNil))))))))
def c__law_two_right (CR : Addr) : Fn := fnB 10 (b__law_two_right CR)
def b__law_whole_right (CR : Addr) : S → Option Fl :=
    (gSeq (gAsg (eTup (aCons (eCall (c_Ratio___init__ CR) [0, 1] [.int 1] (aCons (e2 gIx (eVarB 0) (eC (.int 0))) (aCons (e2 gIx (eVarB 0) (eC (.int 1))) aNil))) (aCons (eVar 0) aNil))) (tgTup 2 (tgCons (tgName 2) (tgCons (tgTup 2 (tgCons (tgName 3) (tgCons (tgName 4) tgNil))) tgNil))))
    (gSeq (gIf (eOrT (eNotT (eT (eCall (c__law_is CR) [0, 1, 2] [] (aCons (e2 (gOwn2 CR (cf_Ratio___add__ CR) (cf_Ratio___radd__ CR)) (eVar 2) (eVar 1)) (aCons (e2 gAdd (eVarB 3) (e2 gMul (eVarB 1) (eVarB 4))) (aCons (eVar 4) aNil)))))) (eOrT (eNotT (eT (eCall (c__law_is CR) [0, 1, 2] [] (aCons (e2 (gOwn2 CR (cf_Ratio___add__ CR) (cf_Ratio___radd__ CR)) (eVar 1) (eVar 2)) (aCons (e2 gAdd (eVarB 3) (e2 gMul (eVarB 1) (eVarB 4))) (aCons (eVar 4) aNil)))))) (eNotT (eT (eCall (c__law_is CR) [0, 1, 2] [] (aCons (e2 (gOwn2 CR (cf_Ratio___sub__ CR) (cf_Ratio___rsub__ CR)) (eVar 1) (eVar 2)) (aCons (e2 gSub (e2 gMul (eVarB 1) (eVarB 4)) (eVarB 3)) (aCons (eVar 4) aNil)))))))) (gSeq (gRet (eC (.bl false)))
    gNil) gNil)
    (gSeq (gIf (eOrT (eNotT (eT (eCall (c__law_is CR) [0, 1, 2] [] (aCons (e2 (gOwn2 CR (cf_Ratio___sub__ CR) (cf_Ratio___rsub__ CR)) (eVar 2) (eVar 1)) (aCons (e2 gSub (eVarB 3) (e2 gMul (eVarB 1) (eVarB 4))) (aCons (eVar 4) aNil)))))) (eOrT (eNotT (eT (eCall (c__law_is CR) [0, 1, 2] [] (aCons (e2 (gOwn2 CR (cf_Ratio___mul__ CR) (cf_Ratio___rmul__ CR)) (eVar 1) (eVar 2)) (aCons (e2 gMul (eVarB 1) (eVarB 3)) (aCons (eVar 4) aNil)))))) (eNotT (eT (eCall (c__law_is CR) [0, 1, 2] [] (aCons (e2 (gOwn2 CR (cf_Ratio___mul__ CR) (cf_Ratio___rmul__ CR)) (eVar 2) (eVar 1)) (aCons (e2 gMul (eVarB 1) (eVarB 3)) (aCons (eVar 4) aNil)))))))) (gSeq (gRet (eC (.bl false)))
    gNil) gNil)
    (gSeq (gIf (eAndT (eT (e2 (gSEq true) (eVarB 1) (eC (.int 0)))) (eNotT (eT (eCall (c__law_is CR) [0, 1, 2] [] (aCons (eM "over" CR (c_Ratio_over CR) [0, 1] [] (eVar 2) (aCons (eVar 1) aNil)) (aCons (eVar 3) (aCons (e2 gMul (eVarB 4) (eVarB 1)) aNil))))))) (gSeq (gRet (eC (.bl false)))
    gNil) gNil)
    (gSeq (gIf (eOrT (eNotT (eT (eCall (c__law_is CR) [0, 1, 2] [] (aCons (eCall (c_Ratio___init__ CR) [0, 1] [.int 1] (aCons (eVar 1) aNil)) (aCons (eVar 1) (aCons (eC (.int 1)) aNil)))))) (eT (e2 gNotB (e2 (gEqD false (dqT (oe CR) 1)) (eVar 2) (eVar 1)) (eC (.bl false))))) (gSeq (gRet (eC (.bl false)))
    gNil) gNil)
    (gSeq (gAsg (e2 gMul (e2 gSub (eVarB 3) (e2 gMul (eVarB 1) (eVarB 4))) (eVarB 4)) (tgName 5))
    (gSeq (gRet (e2 (gSEq false) (e1 gReprL (eLst (aCons (eM "is_below" CR (c_Ratio_is_below CR) [0, 1] [] (eVar 2) (aCons (eVar 1) aNil)) (aCons (eM "is_at_most" CR (c_Ratio_is_at_most CR) [0, 1] [] (eVar 2) (aCons (eVar 1) aNil)) aNil)))) (e1 gReprL (eLst (aCons (e2 gLt (eVarB 5) (eC (.int 0))) (aCons (e2 gLe (eVarB 5) (eC (.int 0))) aNil))))))
    gNil)))))))
def c__law_whole_right (CR : Addr) : Fn := fnB 6 (b__law_whole_right CR)
def b__law_total_right (CR : Addr) : S → Option Fl :=
    (gSeq (gPar3o 2 3 4 (eC (.int 0)) (eC (.int 1)) (eLst aNil))
    (gSeq (gFor (iR1 (aCons (eCall (c__law_draw CR) [0, 1] [] (aCons (eVar 0) (aCons (eC (.int 5)) aNil))) aNil)) (tgName 5) (gSeq (gIf (eT (e2 (gSEq false) (eCall (c__law_draw CR) [0, 1] [] (aCons (eVar 0) (aCons (eC (.int 3)) aNil))) (eC (.int 0)))) (gSeq (gAsg (eCall (c__law_whole CR) [0] [] (aCons (eVar 0) aNil)) (tgName 6))
    (gSeq (gApp 4 (eVar 6))
    (gSeq (gAsg (e2 gAdd (eVarB 2) (e2 gMul (eVarB 6) (eVarB 3))) (tgName 2))
    gNil))) (gSeq (gAsg (eCall (c__law_pick CR) [0, 1] [] (aCons (eVar 0) (aCons (eVar 1) aNil))) (tgName 7))
    (gSeq (gApp 4 (eCall (c_Ratio___init__ CR) [0, 1] [.int 1] (aCons (e2 gIx (eVarB 7) (eC (.int 0))) (aCons (e2 gIx (eVarB 7) (eC (.int 1))) aNil))))
    (gSeq (gPar 2 3 (aCons (e2 gAdd (e2 gMul (eVarB 2) (e2 gIx (eVarB 7) (eC (.int 1)))) (e2 gMul (e2 gIx (eVarB 7) (eC (.int 0))) (eVarB 3))) (aCons (e2 gMul (eVarB 3) (e2 gIx (eVarB 7) (eC (.int 1)))) aNil)))
    gNil))))
    gNil))
    (gSeq (gRet (eAnd (eCall (c__law_is CR) [0, 1, 2] [] (aCons (eCall (c_Ratio_total CR) [0] [] (aCons (eVar 4) aNil)) (aCons (eVar 2) (aCons (eVar 3) aNil)))) (eCall (c__law_is CR) [0, 1, 2] [] (aCons (eCall (c_Ratio_total_tup CR) [0] [] (aCons (eL gTuple (aCons (eVarB 4) aNil)) aNil)) (aCons (eVar 2) (aCons (eVar 3) aNil))))))
    gNil)))
def c__law_total_right (CR : Addr) : Fn := fnB 8 (b__law_total_right CR)
def e_law (CR : Addr) : Sem1 D :=
    (eCall (c__law_pot CR) [0, 1] [] (aCons (eVar 0) (aCons (eC (.int 0)) aNil)))
def b_law (CR : Addr) : S → Option Fl :=
    (gSeq (gOwn (eLst (aCons (eCall (c__law_pair CR) [0] [] (aCons (eVar 1) aNil)) (aCons (eCall (c__law_pair CR) [0] [] (aCons (eVar 1) aNil)) (aCons (eTup (aCons (eC (.int 0)) (aCons (eC (.int 3)) aNil))) aNil)))) 2)
    (gSeq (gApp 2 (eTup (aCons (e2 gMul (e2 gIx (e2 gIx (eVarB 2) (eC (.int 0))) (eC (.int 0))) (eC (.int 6))) (aCons (e2 gMul (e2 gIx (e2 gIx (eVarB 2) (eC (.int 0))) (eC (.int 1))) (eC (.int 6))) aNil))))
    (gSeq (gApp 2 (eTup (aCons (e2 gSub (eC (.int 0)) (e2 gIx (e2 gIx (eVarB 2) (eC (.int 1))) (eC (.int 0)))) (aCons (e2 gSub (eC (.int 0)) (e2 gIx (e2 gIx (eVarB 2) (eC (.int 1))) (eC (.int 1)))) aNil))))
    (gSeq (gAsg (eCall (c__law_whole CR) [0] [] (aCons (eVar 1) aNil)) (tgName 3))
    (gSeq (gFor (iL (eCut (eVarB 2) none (some (eC (.int 2))))) (tgName 4) (gSeq (gIf (eOrT (eNotT (eT (eL gAll (aCons (eComp [5] (iL (eVar 2)) (tgName 5) cYes (eCall (c__law_two_right CR) [0, 1] [] (aCons (eVar 4) (aCons (eVar 5) aNil)))) aNil)))) (eNotT (eT (eCall (c__law_whole_right CR) [0, 1] [] (aCons (eVar 4) (aCons (eVar 3) aNil)))))) (gSeq (gRet (eC (.bl false)))
    gNil) gNil)
    gNil))
    (gSeq (gRet (eAnd (eCall (c__law_whole_right CR) [0, 1] [] (aCons (e2 gIx (eVarB 2) (eC (.int 2))) (aCons (eVar 3) aNil))) (eAnd (eCall (c__law_whole_right CR) [0, 1] [] (aCons (e2 gIx (eVarB 2) (eC (.int 0))) (aCons (eC (.int 0)) aNil))) (eCall (c__law_total_right CR) [0, 1] [] (aCons (eVar 1) (aCons (eVar 2) aNil))))))
    gNil))))))
def Math (CR : Addr) : Prop := ∀ ns : List Int, ns.length ≤ 63 → ∃ x y s' pt, e_law CR (atD 6 [.scr ns] none) = some (.lst [.int x, .int y], s') ∧ noOw s'.sl = true ∧ b_law CR ⟨s'.sl.set 1 (.sh .pot), some (x, y)⟩ = some (.rt (.bl true) pt)
end G11
end
section
set_option linter.all false
set_option maxRecDepth 100000
namespace G11
open PySem VS
set_option exponentiation.threshold 20000
theorem kne : ¬ (Str.ofString "own_bottom" = Str.ofString "own_top") := by decide +kernel
theorem kbq : (Str.ofString "own_top" == Str.ofString "own_bottom") = false := by decide +kernel
theorem isint_int (CR : Addr) (a : Int) (pt : Pt) : c_is_integer CR [.int a] pt = some (.bl true, pt) := rfl
theorem isint_mk (CR : Addr) (a b : Int) (pt : Pt) : c_is_integer CR [mk CR a b] pt = some (.bl false, pt) := by
  simp [c_is_integer, fnB, b_is_integer, gSeq, gRet, eAnd, eIsi, eVarB, atD, mk, kInt]
theorem divisor (CR : Addr) (a b : Int) (pt : Pt) : c_divisor_of CR [.int a, .int b] pt = some (.int ((Nat.gcd a.natAbs b.natAbs : Nat) : Int), pt) := rfl
theorem com_ok {a b : Int} (hb : b ≠ 0) (sb : b.natAbs < 2 ^ 8900) : cDiv a (com a b) = true ∧ cDiv b (com a b) = true := by
  have h0 : Nat.gcd a.natAbs b.natAbs ≠ 0 := fun h => hb (by have := Nat.eq_zero_of_gcd_eq_zero_right h; omega)
  have h1 : Nat.gcd a.natAbs b.natAbs ≤ b.natAbs := Nat.le_of_dvd (by omega) (Nat.gcd_dvd_right _ _)
  have h2 : (com a b).natAbs = Nat.gcd a.natAbs b.natAbs := by unfold com; split <;> omega
  have h3 : com a b ≠ 0 := by intro z; rw [z] at h2; simp at h2; exact h0 h2.symm
  have h4 : (com a b).natAbs.log2 < 9000 := by
    rw [h2, Nat.log2_lt h0]
    have : (2:Nat) ^ 8900 ≤ 2 ^ 9000 := Nat.pow_le_pow_right (by decide) (by decide)
    omega
  unfold cDiv
  exact ⟨decide_eq_true ⟨h3, h4⟩, decide_eq_true ⟨h3, h4⟩⟩
theorem init_ok (CR : Addr) (a b : Int) (pt : Pt) (hb : b ≠ 0) (sb : b.natAbs < 2 ^ 8900) : c_Ratio___init__ CR [.int a, .int b] pt = some (rat CR a b, pt) := by
  obtain ⟨h1, h2⟩ := com_ok (a := a) hb sb
  by_cases hn : b < 0
  · have hc : com a b = -((Nat.gcd a.natAbs b.natAbs : Nat) : Int) := by unfold com; rw [if_pos hn, Int.zero_sub]
    rw [hc] at h1 h2
    simp [c_Ratio___init__, fnI, b_Ratio___init__, jSeq, jIf, VS.atI, un0, eT, eNotT, eCall, aCons, aNil, eVar, pick, isint_int, eOrT, e2, eVarB, eC, gSEq, outB, hb, jNil, jSet, divisor, gLt, gI, hn, gSub, jFld, gFdiv, rat, mk, hc, kne, h1, h2]
  · have hc : com a b = ((Nat.gcd a.natAbs b.natAbs : Nat) : Int) := if_neg hn
    rw [hc] at h1 h2
    simp [c_Ratio___init__, fnI, b_Ratio___init__, jSeq, jIf, VS.atI, un0, eT, eNotT, eCall, aCons, aNil, eVar, pick, isint_int, eOrT, e2, eVarB, eC, gSEq, outB, hb, jNil, jSet, divisor, gLt, gI, hn, gSub, jFld, gFdiv, rat, mk, hc, h1, h2, kne]
theorem pair_int (CR : Addr) (a : Int) (pt : Pt) : c_told_pair CR [.int a] pt = some (.tup [.int a, .int 1], pt) := rfl
theorem pair_mk (CR : Addr) (a b : Int) (pt : Pt) : c_told_pair CR [mk CR a b] pt = some (.tup [.int a, .int b], pt) := by
  simp [c_told_pair, fnB, b_told_pair, gSeq, gIf, eT, eIsi, eVarB, atD, kCls, mk, gRet, eTup, aCons, aNil, eFld, List.findIdx_cons, kbq, LIM]
theorem pair_num {CR : Addr} {x : D} {a b : Int} (h : num CR x = some (a, b)) (pt : Pt) : c_told_pair CR [x] pt = some (.tup [.int a, .int b], pt) := by
  rcases num_eq h with ⟨rfl, rfl⟩ | rfl
  · exact pair_int CR a pt
  · exact pair_mk CR a b pt
theorem log2_sm {a : Int} {n : Nat} (h : a.natAbs < 2 ^ n) : a.natAbs.log2 ≤ n := by
  by_cases z : a.natAbs = 0
  · rw [z]; simp
  · exact Nat.le_of_lt ((Nat.log2_lt z).mpr h)
theorem sm_mul' {a b : Int} {n m : Nat} (ha : a.natAbs < 2 ^ n) (hb : b.natAbs < 2 ^ m) (h : n + m < 1000000 := by decide) : cMul a b = true := by
  have := log2_sm ha
  have := log2_sm hb
  unfold cMul
  exact decide_eq_true (by omega)
theorem sm_mul {a b : Int} (ha : Sm a) (hb : Sm b) : cMul a b = true := sm_mul' ha hb
theorem sm_prod {a b : Int} (ha : Sm a) (hb : Sm b) : (a * b).natAbs < 2 ^ 8900 := by
  rw [Int.natAbs_mul]
  have h1 : a.natAbs < 2 ^ 4000 := ha
  have h2 : b.natAbs < 2 ^ 4000 := hb
  have := Nat.mul_lt_mul'' h1 h2
  rw [← Nat.pow_add] at this
  have h3 : (2:Nat) ^ (4000 + 4000) ≤ 2 ^ 8900 := Nat.pow_le_pow_right (by decide) (by decide)
  omega
theorem pu_Ratio___add__ (CR : Addr) : Pure (c_Ratio___add__ CR) (cf_Ratio___add__ CR) := by
  intro ds pt d h
  unfold cf_Ratio___add__ op2 at h
  split at h
  · rename_i x y
    split at h
    · rename_i a b c e h1 h2
      split at h
      · rename_i hk
        obtain ⟨s1, s2, s3, s4, nb, nd⟩ := hk
        cases h
        cases insD_eq h1
        have hp := pair_num h2 pt
        have nz : b * e ≠ 0 := Int.mul_ne_zero nb nd
        simp [c_Ratio___add__, fnB, b_Ratio___add__, gSeq, gAsg, eCall, aCons, aNil, eVar, pick, atD, hp, tgTup, tgCons, tgNil, tgName, gRet, e2, gAdd, gSub, gMul, gI, eFld, eVarB, mk, List.findIdx_cons, sm_mul, s1, s2, s3, s4, kbq, init_ok CR _ _ pt nz (sm_prod s2 s4)]
      · cases h
    · cases h
  · cases h
theorem pu_Ratio___radd__ (CR : Addr) : Pure (c_Ratio___radd__ CR) (cf_Ratio___radd__ CR) := by
  intro ds pt d h
  unfold cf_Ratio___radd__ op2 at h
  split at h
  · rename_i x y
    split at h
    · rename_i a b c e h1 h2
      split at h
      · rename_i hk
        obtain ⟨s1, s2, s3, s4, nb, nd⟩ := hk
        cases h
        cases insD_eq h1
        have hp := pair_num h2 pt
        have nz : b * e ≠ 0 := Int.mul_ne_zero nb nd
        simp [c_Ratio___radd__, fnB, b_Ratio___radd__, gSeq, gAsg, eCall, aCons, aNil, eVar, pick, atD, hp, tgTup, tgCons, tgNil, tgName, gRet, e2, gAdd, gSub, gMul, gI, eFld, eVarB, mk, List.findIdx_cons, sm_mul, s1, s2, s3, s4, kbq, init_ok CR _ _ pt nz (sm_prod s2 s4)]
      · cases h
    · cases h
  · cases h
theorem pu_Ratio___sub__ (CR : Addr) : Pure (c_Ratio___sub__ CR) (cf_Ratio___sub__ CR) := by
  intro ds pt d h
  unfold cf_Ratio___sub__ op2 at h
  split at h
  · rename_i x y
    split at h
    · rename_i a b c e h1 h2
      split at h
      · rename_i hk
        obtain ⟨s1, s2, s3, s4, nb, nd⟩ := hk
        cases h
        cases insD_eq h1
        have hp := pair_num h2 pt
        have nz : b * e ≠ 0 := Int.mul_ne_zero nb nd
        simp [c_Ratio___sub__, fnB, b_Ratio___sub__, gSeq, gAsg, eCall, aCons, aNil, eVar, pick, atD, hp, tgTup, tgCons, tgNil, tgName, gRet, e2, gAdd, gSub, gMul, gI, eFld, eVarB, mk, List.findIdx_cons, sm_mul, s1, s2, s3, s4, kbq, init_ok CR _ _ pt nz (sm_prod s2 s4)]
      · cases h
    · cases h
  · cases h
theorem pu_Ratio___rsub__ (CR : Addr) : Pure (c_Ratio___rsub__ CR) (cf_Ratio___rsub__ CR) := by
  intro ds pt d h
  unfold cf_Ratio___rsub__ op2 at h
  split at h
  · rename_i x y
    split at h
    · rename_i a b c e h1 h2
      split at h
      · rename_i hk
        obtain ⟨s1, s2, s3, s4, nb, nd⟩ := hk
        cases h
        cases insD_eq h1
        have hp := pair_num h2 pt
        have nz : b * e ≠ 0 := Int.mul_ne_zero nb nd
        simp [c_Ratio___rsub__, fnB, b_Ratio___rsub__, gSeq, gAsg, eCall, aCons, aNil, eVar, pick, atD, hp, tgTup, tgCons, tgNil, tgName, gRet, e2, gAdd, gSub, gMul, gI, eFld, eVarB, mk, List.findIdx_cons, sm_mul, s1, s2, s3, s4, kbq, init_ok CR _ _ pt nz (sm_prod s2 s4)]
      · cases h
    · cases h
  · cases h
theorem pu_Ratio___mul__ (CR : Addr) : Pure (c_Ratio___mul__ CR) (cf_Ratio___mul__ CR) := by
  intro ds pt d h
  unfold cf_Ratio___mul__ op2 at h
  split at h
  · rename_i x y
    split at h
    · rename_i a b c e h1 h2
      split at h
      · rename_i hk
        obtain ⟨s1, s2, s3, s4, nb, nd⟩ := hk
        cases h
        cases insD_eq h1
        have hp := pair_num h2 pt
        have nz : b * e ≠ 0 := Int.mul_ne_zero nb nd
        simp [c_Ratio___mul__, fnB, b_Ratio___mul__, gSeq, gAsg, eCall, aCons, aNil, eVar, pick, atD, hp, tgTup, tgCons, tgNil, tgName, gRet, e2, gAdd, gSub, gMul, gI, eFld, eVarB, mk, List.findIdx_cons, sm_mul, s1, s2, s3, s4, kbq, init_ok CR _ _ pt nz (sm_prod s2 s4)]
      · cases h
    · cases h
  · cases h
theorem pu_Ratio___rmul__ (CR : Addr) : Pure (c_Ratio___rmul__ CR) (cf_Ratio___rmul__ CR) := by
  intro ds pt d h
  unfold cf_Ratio___rmul__ op2 at h
  split at h
  · rename_i x y
    split at h
    · rename_i a b c e h1 h2
      split at h
      · rename_i hk
        obtain ⟨s1, s2, s3, s4, nb, nd⟩ := hk
        cases h
        cases insD_eq h1
        have hp := pair_num h2 pt
        have nz : b * e ≠ 0 := Int.mul_ne_zero nb nd
        simp [c_Ratio___rmul__, fnB, b_Ratio___rmul__, gSeq, gAsg, eCall, aCons, aNil, eVar, pick, atD, hp, tgTup, tgCons, tgNil, tgName, gRet, e2, gAdd, gSub, gMul, gI, eFld, eVarB, mk, List.findIdx_cons, sm_mul, s1, s2, s3, s4, kbq, init_ok CR _ _ pt nz (sm_prod s2 s4)]
      · cases h
    · cases h
  · cases h
theorem pu_Ratio___neg__ (CR : Addr) : Pure (c_Ratio___neg__ CR) (cf_Ratio___neg__ CR) := by
  intro ds pt d h
  unfold cf_Ratio___neg__ at h
  split at h
  · split at h
    · rename_i a b h1
      split at h
      · rename_i hk
        obtain ⟨s1, s2, nb⟩ := hk
        cases h
        cases insD_eq h1
        have s3 : b.natAbs < 2 ^ 8900 := Nat.lt_of_lt_of_le s2 (Nat.pow_le_pow_right (by decide) (by decide))
        simp [c_Ratio___neg__, fnB, b_Ratio___neg__, gSeq, eCall, aCons, aNil, eVar, pick, atD, gRet, e2, gSub, gI, eFld, eVarB, eC, mk, List.findIdx_cons, kbq, -Int.zero_sub, init_ok CR _ _ pt nb s3]
      · cases h
    · cases h
  · cases h
theorem eq_mk (CR : Addr) (a b c d : Int) (pt : Pt) : c_Ratio___eq__ CR [mk CR a b, mk CR c d] pt = some (.bl (decide (a = c) && decide (b = d)), pt) := by
  by_cases h1 : a = c <;> simp [c_Ratio___eq__, fnB, b_Ratio___eq__, gSeq, gIf, eNotT, eT, eIsi, eVarB, atD, kCls, mk, gRet, eAnd, e2, gSEq, outB, eFld, List.findIdx_cons, kbq, gNil, h1]
theorem eq_int (CR : Addr) (a b i : Int) (pt : Pt) : c_Ratio___eq__ CR [mk CR a b, .int i] pt = some (.bl false, pt) := by
  simp [c_Ratio___eq__, fnB, b_Ratio___eq__, gSeq, gIf, eNotT, eT, eIsi, eVarB, atD, kCls, mk, gRet, eC]
end G11
end
section
set_option linter.all false
set_option maxRecDepth 100000
set_option exponentiation.threshold 20000
namespace G11
open PySem VS
def dC (P : Nat) : Sem1 Bool := (eT (e2 gGe (eVarB 1) (eC (.int (P : Int)))))
def dB (P : Nat) : S → Option Fl := (gSeq (gAsg (e2 gAdd (e2 gMod (eL gInt (aCons (eVarB 1) aNil)) (eC (.int (P : Int)))) (eC (.int (P : Int)))) (tgName 3))
    (gSeq (gAsg (eJoin [(eFmt (eCutS (e1 gTxt (eVar 3)) (some (eC (.int 1))) none)), (eFmt (eVar 2))]) (tgName 2))
    (gSeq (gAsg (e2 gFdiv (eVarB 1) (eC (.int (P : Int)))) (tgName 1))
    gNil)))
theorem pad_len : ∀ (k r : Nat), (pad k r).length = k
  | 0, _ => rfl
  | k + 1, r => by
    unfold pad
    rw [List.length_append, pad_len k, Nat.toDigits_of_lt_base (Nat.mod_lt _ (by decide))]
    rfl
theorem one1 : (Nat.toDigits 10 1).length = 1 := by decide
section
variable {P : Nat} (hP : P = 10 ^ 60)
include hP
theorem len61 (r : Nat) (h : r < P) : (lt (txtN (r + P))).length = 61 := by
  have h' : r < 10 ^ 60 := by rw [← hP]; exact h
  have e := digits_split 60 1 r (by decide) h'
  rw [Nat.one_mul, Nat.add_comm, ← hP] at e
  rw [lt_txtN, e, List.length_map, List.length_append, pad_len, one1]
theorem P_pos : 0 < P := by rw [hP]; exact Nat.pow_pos (by decide)
theorem P_log : 2 * P < 2 ^ 1920 := by
  have h1 : (10:Nat) ^ 60 ≤ 16 ^ 60 := Nat.pow_le_pow_left (by decide) 60
  have h2 : (16:Nat) ^ 60 = 2 ^ 240 := by rw [show (16:Nat) = 2 ^ 4 from rfl, ← Nat.pow_mul]
  have h3 : (2:Nat) ^ 240 * 2 = 2 ^ 241 := (Nat.pow_succ ..).symm
  have h4 : (2:Nat) ^ 241 < 2 ^ 1920 := Nat.pow_lt_pow_right (by decide) (by decide)
  omega
theorem dstep (L : Nat) (h : P ≤ L) (t : Str) (ht : (lt t).length ≤ 100000) (x0 p q : Sl) (pt : Pt) :
    dB P ⟨[x0, .sh (.int L), .sh (.str t), p, q], pt⟩ = some (.nx ⟨[x0, .sh (.int ((L / P : Nat) : Int)), .sh (.str (Txt.slice (txtN (L % P + P)) (some 1) none ++ t)), .sh (.int ((L % P + P : Nat) : Int)), q], pt⟩) := by
  have pp := P_pos hP
  have hr : L % P < P := Nat.mod_lt _ pp
  have h61 := len61 hP _ hr
  have hz : (txtN (L % P + P)).length = 61 := h61
  have hs : (Txt.slice (txtN (L % P + P)) (some 1) none).length = 60 := by
    rw [lt_len, drop1, List.length_drop, h61]
  have hn : ((L % P + P : Nat) : Int).natAbs.log2 < 1920 := by
    rw [Int.natAbs_natCast, Nat.log2_lt (by omega)]
    have := P_log hP
    omega
  have ha : (Txt.slice (txtN (L % P + P)) (some 1) none ++ t).length ≤ LIM := by
    rw [lt_len, lt_app, List.length_append, ← lt_len, hs]
    unfold LIM
    omega
  have hm : (L : Int).fmod (P : Int) + (P : Int) = ((L % P + P : Nat) : Int) := by
    rw [Int.fmod_eq_emod_of_nonneg _ (Int.natCast_nonneg _), Int.natCast_add, Int.natCast_emod]
  have hd : (L : Int).fdiv (P : Int) = ((L / P : Nat) : Int) := by
    rw [Int.fdiv_eq_ediv_of_nonneg _ (Int.natCast_nonneg _), Int.natCast_ediv]
  have p0 : (P : Int) ≠ 0 := by omega
  have c1 : cMod (L : Int) (P : Int) = true := decide_eq_true p0
  have c2 : cDiv (L : Int) (P : Int) = true := decide_eq_true ⟨p0, by
    rw [Int.natAbs_natCast, Nat.log2_lt (by omega)]
    have h1 := P_log hP
    have h2 : (2:Nat) ^ 1920 < 2 ^ 9000 := Nat.pow_lt_pow_right (by decide) (by decide)
    omega⟩
  have tt : (toString ((L % P + P : Nat) : Int) : Str) = txtN (L % P + P) := txt_nat _
  have l1 : (61 : Nat) ≤ LIM := by decide
  have l2 : (60 : Nat) ≤ LIM := by decide
  have l3 : t.length ≤ LIM := by rw [lt_len]; unfold LIM; omega
  have e0 : ∀ z : Str, Str.empty ++ z = z := fun z => lt_inj (by rw [lt_app]; rfl)
  simp only [dB, gSeq, gAsg, e2, e1, eL, aCons, aNil, eVarB, eVar, eC, gInt, gMod, gFdiv, gI, c1, c2, gAdd, hm, hd, tgName, List.getElem?_cons_succ, List.getElem?_cons_zero, List.set_cons_succ, List.set_cons_zero, if_true, eJoin, joinF, eFmt, eCutS, partD, gTxt, hn, tt, hz, l1, hs, l2, e0, l3, ha, gNil]
theorem dC_val (L : Nat) (t : Str) (x0 p q : Sl) (pt : Pt) : dC P ⟨[x0, .sh (.int L), .sh (.str t), p, q], pt⟩ = some (decide (P ≤ L), ⟨[x0, .sh (.int L), .sh (.str t), p, q], pt⟩) := by
  have : decide ((P : Int) ≤ (L : Int)) = decide (P ≤ L) := by
    rw [Bool.eq_iff_iff]
    simp
  simp [dC, eT, e2, eVarB, eC, gGe, gI, this]
theorem loop (x0 q : Sl) (pt : Pt) : ∀ (n L : Nat) (t : Str) (p : Sl), L < P ^ (n + 1) → (lt t).length + 60 * n ≤ 3000 →
    ∃ (L' : Nat) (t' : Str) (p' : Sl), gWhile (dC P) (dB P) (n + 1) ⟨[x0, .sh (.int L), .sh (.str t), p, q], pt⟩ = some (.nx ⟨[x0, .sh (.int L'), .sh (.str t'), p', q], pt⟩) ∧ lt (txtN L) ++ lt t = lt (txtN L') ++ lt t' ∧ L' < P ∧ (lt t').length ≤ 3000
  | 0, L, t, p, hL, ht => by
    have h : ¬ P ≤ L := by rw [Nat.pow_one] at hL; omega
    refine ⟨L, t, p, ?_, rfl, by omega, by omega⟩
    unfold gWhile
    rw [dC_val hP]
    simp [h]
  | n + 1, L, t, p, hL, ht => by
    by_cases h : P ≤ L
    · have hs : (lt (Txt.slice (txtN (L % P + P)) (some 1) none)).length = 60 := by
        rw [drop1, List.length_drop, len61 hP _ (Nat.mod_lt _ (P_pos hP))]
      obtain ⟨L', t', p', h1, h2, h3, h4⟩ := loop x0 q pt n (L / P) (Txt.slice (txtN (L % P + P)) (some 1) none ++ t) (.sh (.int ((L % P + P : Nat) : Int))) (by
        rw [Nat.div_lt_iff_lt_mul (P_pos hP), ← Nat.pow_succ]
        exact hL) (by rw [lt_app, List.length_append, hs]; omega)
      refine ⟨L', t', p', ?_, ?_, h3, h4⟩
      · rw [← h1]
        show (match dC P ⟨[x0, .sh (.int L), .sh (.str t), p, q], pt⟩ with
          | some (true, s1) => match dB P s1 with
            | some (.nx s2) => gWhile (dC P) (dB P) (n + 1) s2
            | r => r
          | some (false, s1) => some (.nx s1)
          | none => none) = _
        rw [dC_val hP, show decide (P ≤ L) = true from decide_eq_true h]
        dsimp only
        rw [dstep hP L h t (by omega)]
      · rw [← h2, lt_app, ← List.append_assoc]
        have := digit_step (k := 60) (L := L) (by rw [← hP]; exact h)
        rw [← hP] at this
        rw [this]
    · refine ⟨L, t, p, ?_, rfl, by omega, by omega⟩
      unfold gWhile
      rw [dC_val hP]
      simp [h]
end
theorem lit : (1000000000000000000000000000000000000000000000000000000000000 : Int) = ((10 ^ 60 : Nat) : Int) := by decide
theorem digits_len : ∀ (k n : Nat), n < 10 ^ (k + 1) → (Nat.toDigits 10 n).length ≤ k + 1
  | 0, n, h => by
    rw [Nat.toDigits_of_lt_base (by simpa using h)]
    exact Nat.le_refl _
  | k + 1, n, h => by
    by_cases h1 : n < 10
    · rw [Nat.toDigits_of_lt_base h1]
      show 1 ≤ k + 1 + 1
      omega
    · have h2 := digits_len k (n / 10) (by rw [Nat.pow_succ] at h; omega)
      have h3 := Nat.toDigits_append_toDigits (b := 10) (n := n / 10) (d := n % 10) (by decide) (by omega) (Nat.mod_lt _ (by decide))
      rw [Nat.div_add_mod] at h3
      rw [← h3, List.length_append, Nat.toDigits_of_lt_base (Nat.mod_lt _ (by decide))]
      show _ + 1 ≤ _
      omega
theorem digits_ok (CR : Addr) (i : Int) (pt : Pt) (hi : Tx' i) : c_digits_of CR [.int i] pt = some (.str (txt i), pt) := by
  obtain ⟨P, hP⟩ : ∃ P, P = 10 ^ 60 := ⟨_, rfl⟩
  have hl : i.natAbs < P ^ (19 + 1) := by
    have h0 : i.natAbs < 2 ^ 1900 := by
      by_cases z : i.natAbs = 0
      · rw [z]; exact Nat.pow_pos (by decide)
      · exact (Nat.log2_lt z).mp hi
    have h1 : (2:Nat) ^ 180 ≤ P := by
      rw [hP]
      have : (8:Nat) ^ 60 ≤ 10 ^ 60 := Nat.pow_le_pow_left (by decide) 60
      have h2 : (8:Nat) ^ 60 = 2 ^ 180 := by rw [show (8:Nat) = 2 ^ 3 from rfl, ← Nat.pow_mul]
      omega
    have h3 : ((2:Nat) ^ 180) ^ 20 ≤ P ^ 20 := Nat.pow_le_pow_left h1 20
    rw [← Nat.pow_mul] at h3
    have h4 : (2:Nat) ^ 1900 ≤ 2 ^ (180 * 20) := Nat.pow_le_pow_right (by decide) (by decide)
    exact Nat.lt_of_lt_of_le h0 (Nat.le_trans h4 h3)
  obtain ⟨L', t', p', h1, h2, h3, h4⟩ := loop hP (.sh (.int i)) .un pt 19 i.natAbs (Str.ofString "") .un hl (by decide)
  have lg : (L' : Int).natAbs.log2 < 1920 := by
    rw [Int.natAbs_natCast]
    by_cases z : L' = 0
    · rw [z]; decide
    · rw [Nat.log2_lt z]
      have := P_log hP
      omega
  have tt : Str.ofString (Int.repr (L' : Int)) = txtN L' := txt_nat _
  rw [Int.natAbs_natCast] at lg
  have e0 : ∀ z : Str, Str.empty ++ z = z := fun z => lt_inj (by rw [lt_app]; rfl)
  have hb : b_digits_of CR = (gSeq (gPar 1 2 (aCons (eIf (eT (e2 gGe (eVarB 0) (eC (.int 0)))) (eVar 0) (e2 gSub (eC (.int 0)) (eVarB 0))) (aCons (eC (.str "")) aNil)))
    (gSeq (gWhile (dC P) (dB P) 20)
    (gSeq (gAsg (eIf (eT (e2 gLt (eVarB 0) (eC (.int 0)))) (eC (.str "-")) (eC (.str ""))) (tgName 4))
    (gSeq (gRet (eJoin [(eFmt (eVar 4)), (eFmt (eVar 1)), (eFmt (eVar 2))]))
    gNil)))) := by
    subst hP
    unfold b_digits_of dC dB
    rw [lit]
  have l3 : t'.length ≤ LIM := by rw [lt_len]; unfold LIM; omega
  have lL : (txtN L').length ≤ 481 := by
    rw [lt_len, lt_txtN, List.length_map]
    have := digits_len 59 L' (by rw [← hP]; exact h3)
    omega
  have lc : (txtN L').length ≤ LIM := by unfold LIM; omega
  have el : (lt (Str.ofString "")) = [] := by decide
  rw [el, List.append_nil] at h2
  by_cases hn : 0 ≤ i
  · obtain ⟨n, rfl⟩ := Int.eq_ofNat_of_zero_le hn
    rw [Int.natAbs_natCast] at h1 h2
    have hng : ¬ ((n : Int) < 0) := by omega
    have res : (Str.ofString "" ++ txtN L') ++ t' = txt n := lt_inj (by
      rw [lt_app, lt_app, el, List.nil_append]
      show _ = lt (toString (n : Int) : Str)
      rw [txt_nat, h2])
    have la : (Str.ofString "" ++ txtN L').length ≤ LIM := by rw [lt_len, lt_app, List.length_append, ← lt_len (txtN L'), el]; unfold LIM; simp; omega
    have lb : (Str.ofString "" ++ txtN L' ++ t').length ≤ LIM := by rw [lt_len, lt_app, lt_app, List.length_append, List.length_append, ← lt_len (txtN L'), ← lt_len t', el]; unfold LIM at *; rw [lt_len t'] at *; simp; omega
    rw [res] at lb
    have z0 : (Str.ofString "").length ≤ LIM := by decide
    simp [c_digits_of, fnB, hb, atD, gSeq, gPar, aCons, aNil, eIf, eT, e2, gGe, gI, eVarB, eVar, eC, hn, h1, gAsg, gLt, hng, tgName, gRet, eJoin, joinF, eFmt, tt, lg, e0, l3, gNil, res, z0, la, lb, lc]
  · obtain ⟨n, rfl⟩ : ∃ n : Nat, i = -(n : Int) := ⟨i.natAbs, by omega⟩
    rw [Int.natAbs_neg, Int.natAbs_natCast] at h1 h2
    have n0 : 0 < n := by omega
    have hng : -(n : Int) < 0 := by omega
    have h00 : n ≠ 0 := by omega
    have res : (Str.ofString "-" ++ txtN L') ++ t' = txt (-(n : Int)) := lt_inj (by
      show _ = lt (toString (-(n : Int)) : Str)
      rw [lt_app, lt_app, txt_neg n n0, lt_app, h2, List.append_assoc])
    have la : (Str.ofString "-" ++ txtN L').length ≤ LIM := by rw [lt_len, lt_app, List.length_append, ← lt_len (txtN L'), show (lt (Str.ofString "-")).length = 1 from by decide]; unfold LIM; omega
    have lb : (Str.ofString "-" ++ txtN L' ++ t').length ≤ LIM := by rw [lt_len, lt_app, lt_app, List.length_append, List.length_append, ← lt_len (txtN L'), ← lt_len t', show (lt (Str.ofString "-")).length = 1 from by decide]; have : t'.length ≤ 3000 := h4; unfold LIM; omega
    rw [res] at lb
    have z1 : (Str.ofString "-").length ≤ LIM := by decide
    simp [c_digits_of, fnB, hb, atD, gSeq, gPar, aCons, aNil, eIf, eT, e2, gGe, gI, eVarB, eVar, eC, hn, h00, h1, gAsg, gLt, hng, n0, tgName, gRet, eJoin, joinF, eFmt, tt, lg, e0, l3, gNil, res, z1, la, lb, lc, gSub]
end G11
end
section
set_option linter.all false
set_option maxRecDepth 100000
set_option exponentiation.threshold 20000
namespace G11
open PySem VS
theorem txt_len {a : Int} (h : Tx' a) : (txt a).length ≤ 701 := by
  have h0 : a.natAbs < 10 ^ (699 + 1) := by
    have h1 : a.natAbs < 2 ^ 1900 := by
      by_cases z : a.natAbs = 0
      · rw [z]; exact Nat.pow_pos (by decide)
      · exact (Nat.log2_lt z).mp h
    have h2 : (2:Nat) ^ 1900 ≤ 2 ^ (3 * 700) := Nat.pow_le_pow_right (by decide) (by decide)
    rw [Nat.pow_mul] at h2
    have h3 : ((2:Nat) ^ 3) ^ 700 ≤ 10 ^ 700 := Nat.pow_le_pow_left (by decide) 700
    exact Nat.lt_of_lt_of_le h1 (Nat.le_trans h2 h3)
  have h4 := digits_len 699 a.natAbs h0
  by_cases hn : 0 ≤ a
  · obtain ⟨n, rfl⟩ := Int.eq_ofNat_of_zero_le hn
    show (lt (toString (n : Int) : Str)).length ≤ 701
    rw [txt_nat, lt_txtN, List.length_map]
    rw [Int.natAbs_natCast] at h4
    omega
  · obtain ⟨n, rfl⟩ : ∃ n : Nat, a = -(n : Int) := ⟨a.natAbs, by omega⟩
    show (lt (toString (-(n : Int)) : Str)).length ≤ 701
    rw [txt_neg n (by omega), lt_app, List.length_append, lt_txtN, List.length_map, show (lt (Str.ofString "-")).length = 1 from by decide]
    rw [Int.natAbs_neg, Int.natAbs_natCast] at h4
    omega
theorem le_lim' {z : Str} {n : Nat} (h : z.length ≤ n) (hn : n ≤ 16777216 := by decide) : z.length ≤ LIM := by unfold LIM; omega
theorem app_len (a b : Str) : (a ++ b).length = a.length + b.length := by
  rw [lt_len, lt_app, List.length_append]
  rfl
theorem e00 (z : Str) : Str.empty ++ z = z := lt_inj (by rw [lt_app]; rfl)
theorem str_ok (CR : Addr) (a b : Int) (pt : Pt) (ha : Tx' a) (hb : Tx' b) : c_Ratio___str__ CR [mk CR a b] pt = some (.str (if b = 1 then txt a else txt a ++ "/" ++ txt b), pt) := by
  have la := le_lim' (txt_len ha)
  have lb := le_lim' (txt_len hb)
  have ls : (Str.ofString "/").length ≤ LIM := by decide
  have k1 := txt_len ha
  have k2 := txt_len hb
  have q1 : (Str.ofString "/").length = 1 := by decide
  have l1 : (txt a ++ Str.ofString "/").length ≤ LIM := le_lim' (n := 1800) (by simp only [app_len]; omega)
  have l2 : (txt a ++ Str.ofString "/" ++ txt b).length ≤ LIM := le_lim' (n := 1800) (by simp only [app_len]; omega)
  by_cases h : b = 1
  · simp [c_Ratio___str__, fnB, b_Ratio___str__, atD, mk, gSeq, gIf, eT, e2, eFld, eVarB, List.findIdx_cons, kbq, eC, gSEq, outB, h, gRet, eFmt, eCall, aCons, aNil, pick, digits_ok, ha, la]
  · simp [c_Ratio___str__, fnB, b_Ratio___str__, atD, mk, gSeq, gIf, eT, e2, eFld, eVarB, List.findIdx_cons, kbq, eC, gSEq, outB, h, gRet, eFmt, eCall, aCons, aNil, pick, digits_ok, ha, hb, la, lb, gNil, eJoin, joinF, e00, l1, l2]
theorem repr_ok (CR : Addr) (a b : Int) (pt : Pt) (ha : Tx' a) (hb : Tx' b) : c_Ratio___repr__ CR [mk CR a b] pt = some (.str ("Ratio(" ++ txt a ++ ", " ++ txt b ++ ")"), pt) := by
  have la := le_lim' (txt_len ha)
  have lb := le_lim' (txt_len hb)
  have q1 : (Str.ofString "Ratio(").length = 6 := by decide
  have q2 : (Str.ofString ", ").length = 2 := by decide
  have q3 : (Str.ofString ")").length = 1 := by decide
  have k1 := txt_len ha
  have k2 := txt_len hb
  have l0 : (Str.ofString "Ratio(").length ≤ LIM := by decide
  have l1 : (Str.ofString "Ratio(" ++ txt a).length ≤ LIM := le_lim' (n := 1800) (by simp only [app_len]; omega)
  have l2 : (Str.ofString "Ratio(" ++ txt a ++ Str.ofString ", ").length ≤ LIM := le_lim' (n := 1800) (by simp only [app_len]; omega)
  have l3 : (Str.ofString "Ratio(" ++ txt a ++ Str.ofString ", " ++ txt b).length ≤ LIM := le_lim' (n := 1800) (by simp only [app_len]; omega)
  have l4 : (Str.ofString "Ratio(" ++ txt a ++ Str.ofString ", " ++ txt b ++ Str.ofString ")").length ≤ LIM := le_lim' (n := 1800) (by simp only [app_len]; omega)
  simp [c_Ratio___repr__, fnB, b_Ratio___repr__, atD, mk, gSeq, e2, eFld, eVarB, List.findIdx_cons, kbq, eC, gRet, eFmt, eCall, aCons, aNil, pick, digits_ok, ha, hb, la, lb, gNil, eJoin, joinF, e00, l0, l1, l2, l3, l4]
theorem pu_Ratio___str__ (CR : Addr) : Pure (c_Ratio___str__ CR) (cf_Ratio___str__ CR) := by
  intro ds pt d h
  unfold cf_Ratio___str__ at h
  split at h
  · split at h
    · rename_i a b h1
      split at h
      · rename_i hk
        cases h
        cases insD_eq h1
        exact str_ok CR a b pt hk.1 hk.2
      · cases h
    · cases h
  · cases h
theorem pu_Ratio___repr__ (CR : Addr) : Pure (c_Ratio___repr__ CR) (cf_Ratio___repr__ CR) := by
  intro ds pt d h
  unfold cf_Ratio___repr__ at h
  split at h
  · split at h
    · rename_i a b h1
      split at h
      · rename_i hk
        cases h
        cases insD_eq h1
        exact repr_ok CR a b pt hk.1 hk.2
      · cases h
    · cases h
  · cases h
end G11
end
section
set_option Elab.async false
set_option linter.all false
set_option maxRecDepth 100000
set_option maxHeartbeats 4000000
namespace G11
open PySem PySem.Spec PyProof.Rows L2 VS
theorem vis {sc : Scope} {x : Str} (h : sc.names.lookup x = some .local) : Vis sc x := .inl h
theorem ok_is_integer {P : Program} {w : World} {K : PySem.W.Frag} {mg : Str → Option Value} {base : Heap} (T : Tx K mg) : FnG true P w K mg base 1 T.f_is_integer T.d_is_integer ["value"] (spF K 1 (c_is_integer T.CR)) := def_ofE (b := b_is_integer T.CR) rfl rfl rfl T.F_is_integer sc_is_integer fun cdv A outer s H hr P0 F0 H0 => by
  have sc := sc_is_integer
  refine s_cons ?_ ?_
  · refine s_ret ?_
    · refine v_and ?_ ?_
      · refine v_isi (ok_kInt T.own) ?_ (pe_bltn (v := .ty "int") rfl T.b_int (by decide +kernel) rfl) (ClsV.ty "int") T.b_isinstance
        · exact v_varB 0
      · refine v_one ?_
        · refine v_not ?_
          · refine v_isi (ok_kBool T.own) ?_ (pe_bltn (v := .ty "bool") rfl T.b_bool (by decide +kernel) rfl) (ClsV.ty "bool") T.b_isinstance
            · exact v_varB 0
  · exact s_nil
theorem ok_is_list {P : Program} {w : World} {K : PySem.W.Frag} {mg : Str → Option Value} {base : Heap} (T : Tx K mg) : FnG true P w K mg base 1 T.f_is_list T.d_is_list ["value"] (spF K 1 (c_is_list T.CR)) := def_ofE (b := b_is_list T.CR) rfl rfl rfl T.F_is_list sc_is_list fun cdv A outer s H hr P0 F0 H0 => by
  have sc := sc_is_list
  refine s_cons ?_ ?_
  · refine s_ret ?_
    · refine v_isi2 (ok_kSeq T.own) ?_ (pe_bltn (v := .ty "list") rfl T.b_list (by decide +kernel) rfl) (ClsV.ty "list") (pe_bltn (v := .ty "tuple") rfl T.b_tuple (by decide +kernel) rfl) (ClsV.ty "tuple") T.b_isinstance
      · exact v_varB 0
  · exact s_nil
theorem ok_digits_of {P : Program} {w : World} {K : PySem.W.Frag} {mg : Str → Option Value} {base : Heap} (T : Tx K mg) : FnG true P w K mg base 1 T.f_digits_of T.d_digits_of ["number"] (spF K 1 (c_digits_of T.CR)) := def_ofE (b := b_digits_of T.CR) rfl rfl rfl T.F_digits_of sc_digits_of fun cdv A outer s H hr P0 F0 H0 => by
  have sc := sc_digits_of
  refine s_cons ?_ ?_
  · refine s_par 1 2 rfl sc.nd ?_
    · refine a_cons ?_ ?_
      · refine v_ifE ?_ ?_ ?_
        · refine v_cmpT op_ge ov_ge ?_ ?_
          · exact v_varB 0
          · refine tV_B ?_
            · exact v_int
        · exact v_var 0
        · refine v_sub ?_ ?_
          · refine tV_B ?_
            · exact v_int
          · exact v_varB 0
      · refine a_cons ?_ ?_
        · exact v_str
        · exact a_nil
  · refine s_cons ?_ ?_
    · refine s_while 20 PassesOwn.never ?_ ?_
      · refine v_cmpT op_ge ov_ge ?_ ?_
        · exact v_varB 1
        · refine tV_B ?_
          · exact v_gint rfl T.m_PART T.r_PART
      · refine s_cons ?_ ?_
        · refine s_set 3 sc.nd ?_
          · refine v_add ?_ ?_
            · refine tV_B ?_
              · refine v_mod ?_ ?_
                · refine tV_B ?_
                  · refine v_callTy call_int1 cv_int T.b_int ?_
                    · refine ab_cons ?_ ?_
                      · exact v_varB 1
                      · exact ab_nil
                · refine tV_B ?_
                  · exact v_gint rfl T.m_PART T.r_PART
            · refine tV_B ?_
              · exact v_gint rfl T.m_PART T.r_PART
        · refine s_cons ?_ ?_
          · refine s_set 2 sc.nd ?_
            · refine v_join ?_
              · refine PJv.cons ?_ ?_
                · refine v_fmt ?_
                  · refine v_cutS ?_ ?_ ?_
                    · refine v_callT1 call_str_int cp_strI T.b_str ?_
                      · exact v_var 3
                    · refine o_some ?_
                      · exact v_int
                    · exact o_none
                · refine PJv.cons ?_ ?_
                  · refine v_fmt ?_
                    · exact v_var 2
                  · exact PJv.nil
          · refine s_cons ?_ ?_
            · refine s_set 1 sc.nd ?_
              · refine v_fdiv ?_ ?_
                · exact v_varB 1
                · refine tV_B ?_
                  · exact v_gint rfl T.m_PART T.r_PART
            · exact s_nil
    · refine s_cons ?_ ?_
      · refine s_set 4 sc.nd ?_
        · refine v_ifE ?_ ?_ ?_
          · refine v_cmpT op_lt ov_lt ?_ ?_
            · exact v_varB 0
            · refine tV_B ?_
              · exact v_int
          · exact v_str
          · exact v_str
      · refine s_cons ?_ ?_
        · refine s_ret ?_
          · refine v_join ?_
            · refine PJv.cons ?_ ?_
              · refine v_fmt ?_
                · exact v_var 4
              · refine PJv.cons ?_ ?_
                · refine v_fmt ?_
                  · exact v_var 1
                · refine PJv.cons ?_ ?_
                  · refine v_fmt ?_
                    · exact v_var 2
                  · exact PJv.nil
        · exact s_nil
theorem ok_divisor_of {P : Program} {w : World} {K : PySem.W.Frag} {mg : Str → Option Value} {base : Heap} (T : Tx K mg) : FnG true P w K mg base 1 T.f_divisor_of T.d_divisor_of ["one", "other"] (spF K 2 (c_divisor_of T.CR)) := def_ofE (b := b_divisor_of T.CR) rfl rfl rfl T.F_divisor_of sc_divisor_of fun cdv A outer s H hr P0 F0 H0 => by
  have sc := sc_divisor_of
  refine s_cons ?_ ?_
  · refine s_ret ?_
    · refine v_callF cr_gcd cv_gcd T.m_gcd ?_
      · refine ab_cons ?_ ?_
        · exact v_varB 0
        · refine ab_cons ?_ ?_
          · exact v_varB 1
          · exact ab_nil
  · exact s_nil
theorem ok_Ratio___init__ {P : Program} {w : World} {K : PySem.W.Frag} {mg : Str → Option Value} {base : Heap} (T : Tx K mg) : FnG true P w K mg base 2 T.f_Ratio___init__ T.d_Ratio___init__ ["self", "top", "bottom"] (spI K T.CR 2 (c_Ratio___init__ T.CR)) := init_ofE (b := b_Ratio___init__ T.CR) rfl rfl rfl T.F_Ratio___init__ sc_Ratio___init__ fun cdv A outer s H hr P0 F0 H0 x => by
  have sc := sc_Ratio___init__
  refine j_cons ?_ ?_
  · refine j_if ?_ ?_ ?_
    · refine v_notT ?_
      · refine v_test ?_
        · refine v_fn (ok_is_integer T) (hr.mono (by decide)) T.m_is_integer T.F_is_integer.kp (bk_is_integer_1 T) .nil cst0 ?_
          · refine w_p ?_
            · refine an_cons ?_ ?_
              · exact v_var 1
              · exact an_nil
    · exact j_never
    · exact j_nil
  · refine j_cons ?_ ?_
    · refine j_if ?_ ?_ ?_
      · refine PW.pt ?_
        · refine w_or ?_ ?_
          · refine v_notT ?_
            · refine v_test ?_
              · refine v_fn (ok_is_integer T) (hr.mono (by decide)) T.m_is_integer T.F_is_integer.kp (bk_is_integer_1 T) .nil cst0 ?_
                · refine w_p ?_
                  · refine an_cons ?_ ?_
                    · exact v_var 2
                    · exact an_nil
          · refine w_or1 ?_
            · refine v_cmpT op_eq ov_seq ?_ ?_
              · exact v_varB 2
              · refine tV_B ?_
                · exact v_int
      · exact j_never
      · exact j_nil
    · refine j_cons ?_ ?_
      · refine j_set 2 sc.nd ?_
        · refine v_fn (ok_divisor_of T) (hr.mono (by decide)) T.m_divisor_of T.F_divisor_of.kp (bk_divisor_of_2 T) .nil cst0 ?_
          · refine w_p ?_
            · refine an_cons ?_ ?_
              · exact v_var 1
              · refine an_cons ?_ ?_
                · exact v_var 2
                · exact an_nil
      · refine j_cons ?_ ?_
        · refine j_if ?_ ?_ ?_
          · refine v_cmpT op_lt ov_lt ?_ ?_
            · exact v_varB 2
            · refine tV_B ?_
              · exact v_int
          · refine j_cons ?_ ?_
            · refine j_set 2 sc.nd ?_
              · refine v_sub ?_ ?_
                · refine tV_B ?_
                  · exact v_int
                · exact v_varB 3
            · exact j_nil
          · exact j_nil
        · refine j_cons ?_ ?_
          · refine j_fld T.cR T.n_own_top ?_
            · refine v_fdiv ?_ ?_
              · exact v_varB 1
              · exact v_varB 3
          · refine j_cons ?_ ?_
            · refine j_fld T.cR T.n_own_bottom ?_
              · refine v_fdiv ?_ ?_
                · exact v_varB 2
                · exact v_varB 3
            · exact j_nil
theorem ok_Ratio_top {P : Program} {w : World} {K : PySem.W.Frag} {mg : Str → Option Value} {base : Heap} (T : Tx K mg) : FnG true P w K mg base 1 T.f_Ratio_top T.d_Ratio_top ["self"] (spF K 1 (c_Ratio_top T.CR)) := def_ofE (b := b_Ratio_top T.CR) rfl rfl rfl T.F_Ratio_top sc_Ratio_top fun cdv A outer s H hr P0 F0 H0 => by
  have sc := sc_Ratio_top
  refine s_cons ?_ ?_
  · refine s_ret ?_
    · refine v_fld (i := 0) ?_ T.cR T.n_own_top
      · exact v_varB 0
  · exact s_nil
theorem ok_Ratio_bottom {P : Program} {w : World} {K : PySem.W.Frag} {mg : Str → Option Value} {base : Heap} (T : Tx K mg) : FnG true P w K mg base 1 T.f_Ratio_bottom T.d_Ratio_bottom ["self"] (spF K 1 (c_Ratio_bottom T.CR)) := def_ofE (b := b_Ratio_bottom T.CR) rfl rfl rfl T.F_Ratio_bottom sc_Ratio_bottom fun cdv A outer s H hr P0 F0 H0 => by
  have sc := sc_Ratio_bottom
  refine s_cons ?_ ?_
  · refine s_ret ?_
    · refine v_fld (i := 1) ?_ T.cR T.n_own_bottom
      · exact v_varB 0
  · exact s_nil
theorem ok_Ratio_sign {P : Program} {w : World} {K : PySem.W.Frag} {mg : Str → Option Value} {base : Heap} (T : Tx K mg) : FnG true P w K mg base 1 T.f_Ratio_sign T.d_Ratio_sign ["self"] (spF K 1 (c_Ratio_sign T.CR)) := def_ofE (b := b_Ratio_sign T.CR) rfl rfl rfl T.F_Ratio_sign sc_Ratio_sign fun cdv A outer s H hr P0 F0 H0 => by
  have sc := sc_Ratio_sign
  refine s_cons ?_ ?_
  · refine s_ret ?_
    · refine v_sub ?_ ?_
      · refine tV_B ?_
        · refine v_callTy call_int1 cv_int T.b_int ?_
          · refine ab_cons ?_ ?_
            · refine tV_B ?_
              · refine v_cmp op_gt ov_gt ?_ ?_
                · refine tV_B ?_
                  · refine v_fld (i := 0) ?_ T.cR T.n_own_top
                    · exact v_varB 0
                · refine tV_B ?_
                  · exact v_int
            · exact ab_nil
      · refine tV_B ?_
        · refine v_callTy call_int1 cv_int T.b_int ?_
          · refine ab_cons ?_ ?_
            · refine tV_B ?_
              · refine v_cmp op_lt ov_lt ?_ ?_
                · refine tV_B ?_
                  · refine v_fld (i := 0) ?_ T.cR T.n_own_top
                    · exact v_varB 0
                · refine tV_B ?_
                  · exact v_int
            · exact ab_nil
  · exact s_nil
theorem ok_Ratio_is_whole {P : Program} {w : World} {K : PySem.W.Frag} {mg : Str → Option Value} {base : Heap} (T : Tx K mg) : FnG true P w K mg base 1 T.f_Ratio_is_whole T.d_Ratio_is_whole ["self"] (spF K 1 (c_Ratio_is_whole T.CR)) := def_ofE (b := b_Ratio_is_whole T.CR) rfl rfl rfl T.F_Ratio_is_whole sc_Ratio_is_whole fun cdv A outer s H hr P0 F0 H0 => by
  have sc := sc_Ratio_is_whole
  refine s_cons ?_ ?_
  · refine s_ret ?_
    · refine v_cmp op_eq ov_seq ?_ ?_
      · refine tV_B ?_
        · refine v_fld (i := 1) ?_ T.cR T.n_own_bottom
          · exact v_varB 0
      · refine tV_B ?_
        · exact v_int
  · exact s_nil
theorem ok_told_pair {P : Program} {w : World} {K : PySem.W.Frag} {mg : Str → Option Value} {base : Heap} (T : Tx K mg) : FnG true P w K mg base 2 T.f_told_pair T.d_told_pair ["value"] (spF K 1 (c_told_pair T.CR)) := def_ofE (b := b_told_pair T.CR) rfl rfl rfl T.F_told_pair sc_told_pair fun cdv A outer s H hr P0 F0 H0 => by
  have sc := sc_told_pair
  refine s_cons ?_ ?_
  · refine s_if ?_ ?_ ?_
    · refine v_test ?_
      · refine v_isi (T.ok_Ratio) ?_ (pe_glob (v := .ref T.CR) rfl T.mR rfl) (ClsV.own T.CR) T.b_isinstance
        · exact v_varB 0
    · refine s_cons ?_ ?_
      · refine s_ret ?_
        · refine v_tup ?_
          · refine a_cons ?_ ?_
            · refine v_fld (i := 0) ?_ T.cR T.n_own_top
              · exact v_varB 0
            · refine a_cons ?_ ?_
              · refine v_fld (i := 1) ?_ T.cR T.n_own_bottom
                · exact v_varB 0
              · exact a_nil
      · exact s_nil
    · exact s_nil
  · refine s_cons ?_ ?_
    · refine s_if ?_ ?_ ?_
      · refine v_notT ?_
        · refine v_test ?_
          · refine v_fn (ok_is_integer T) (hr.mono (by decide)) T.m_is_integer T.F_is_integer.kp (bk_is_integer_1 T) .nil cst0 ?_
            · refine w_p ?_
              · refine an_cons ?_ ?_
                · exact v_var 0
                · exact an_nil
      · refine s_cons ?_ ?_
        · exact s_never
        · exact s_nil
      · exact s_nil
    · refine s_cons ?_ ?_
      · refine s_ret ?_
        · refine v_tup ?_
          · refine a_cons ?_ ?_
            · exact v_var 0
            · refine a_cons ?_ ?_
              · exact v_int
              · exact a_nil
      · exact s_nil
theorem ok_Ratio___add__ {P : Program} {w : World} {K : PySem.W.Frag} {mg : Str → Option Value} {base : Heap} (T : Tx K mg) : FnG true P w K mg base 4 T.f_Ratio___add__ T.d_Ratio___add__ ["self", "other"] (spF K 2 (c_Ratio___add__ T.CR)) := def_ofE (b := b_Ratio___add__ T.CR) rfl rfl rfl T.F_Ratio___add__ sc_Ratio___add__ fun cdv A outer s H hr P0 F0 H0 => by
  have sc := sc_Ratio___add__
  refine s_cons ?_ ?_
  · refine s_asg ?_ ?_
    · refine v_fn (ok_told_pair T) (hr.mono (by decide)) T.m_told_pair T.F_told_pair.kp (bk_told_pair_1 T) .nil cst0 ?_
      · refine w_p ?_
        · refine an_cons ?_ ?_
          · exact v_var 1
          · exact an_nil
    · refine g_tup rfl ?_
      · refine g_cons ?_ ?_
        · exact g_name 2 sc.nd
        · refine g_cons ?_ ?_
          · exact g_name 3 sc.nd
          · exact g_nil
  · refine s_cons ?_ ?_
    · refine s_ret ?_
      · refine v_mkE T.kR (ok_Ratio___init__ T) (hr.mono (by decide)) T.mR (bk_Ratio___init___2 T) (cst1 1) ?_
        · refine w_p ?_
          · refine an_cons ?_ ?_
            · refine v_add ?_ ?_
              · refine tV_B ?_
                · refine v_mul ?_ ?_
                  · refine tV_B ?_
                    · refine v_fld (i := 0) ?_ T.cR T.n_own_top
                      · exact v_varB 0
                  · exact v_varB 3
              · refine tV_B ?_
                · refine v_mul ?_ ?_
                  · exact v_varB 2
                  · refine tV_B ?_
                    · refine v_fld (i := 1) ?_ T.cR T.n_own_bottom
                      · exact v_varB 0
            · refine an_cons ?_ ?_
              · refine v_mul ?_ ?_
                · refine tV_B ?_
                  · refine v_fld (i := 1) ?_ T.cR T.n_own_bottom
                    · exact v_varB 0
                · exact v_varB 3
              · exact an_nil
    · exact s_nil
theorem ok_Ratio___radd__ {P : Program} {w : World} {K : PySem.W.Frag} {mg : Str → Option Value} {base : Heap} (T : Tx K mg) : FnG true P w K mg base 4 T.f_Ratio___radd__ T.d_Ratio___radd__ ["self", "other"] (spF K 2 (c_Ratio___radd__ T.CR)) := def_ofE (b := b_Ratio___radd__ T.CR) rfl rfl rfl T.F_Ratio___radd__ sc_Ratio___radd__ fun cdv A outer s H hr P0 F0 H0 => by
  have sc := sc_Ratio___radd__
  refine s_cons ?_ ?_
  · refine s_asg ?_ ?_
    · refine v_fn (ok_told_pair T) (hr.mono (by decide)) T.m_told_pair T.F_told_pair.kp (bk_told_pair_1 T) .nil cst0 ?_
      · refine w_p ?_
        · refine an_cons ?_ ?_
          · exact v_var 1
          · exact an_nil
    · refine g_tup rfl ?_
      · refine g_cons ?_ ?_
        · exact g_name 2 sc.nd
        · refine g_cons ?_ ?_
          · exact g_name 3 sc.nd
          · exact g_nil
  · refine s_cons ?_ ?_
    · refine s_ret ?_
      · refine v_mkE T.kR (ok_Ratio___init__ T) (hr.mono (by decide)) T.mR (bk_Ratio___init___2 T) (cst1 1) ?_
        · refine w_p ?_
          · refine an_cons ?_ ?_
            · refine v_add ?_ ?_
              · refine tV_B ?_
                · refine v_mul ?_ ?_
                  · refine tV_B ?_
                    · refine v_fld (i := 0) ?_ T.cR T.n_own_top
                      · exact v_varB 0
                  · exact v_varB 3
              · refine tV_B ?_
                · refine v_mul ?_ ?_
                  · exact v_varB 2
                  · refine tV_B ?_
                    · refine v_fld (i := 1) ?_ T.cR T.n_own_bottom
                      · exact v_varB 0
            · refine an_cons ?_ ?_
              · refine v_mul ?_ ?_
                · refine tV_B ?_
                  · refine v_fld (i := 1) ?_ T.cR T.n_own_bottom
                    · exact v_varB 0
                · exact v_varB 3
              · exact an_nil
    · exact s_nil
theorem ok_Ratio___sub__ {P : Program} {w : World} {K : PySem.W.Frag} {mg : Str → Option Value} {base : Heap} (T : Tx K mg) : FnG true P w K mg base 4 T.f_Ratio___sub__ T.d_Ratio___sub__ ["self", "other"] (spF K 2 (c_Ratio___sub__ T.CR)) := def_ofE (b := b_Ratio___sub__ T.CR) rfl rfl rfl T.F_Ratio___sub__ sc_Ratio___sub__ fun cdv A outer s H hr P0 F0 H0 => by
  have sc := sc_Ratio___sub__
  refine s_cons ?_ ?_
  · refine s_asg ?_ ?_
    · refine v_fn (ok_told_pair T) (hr.mono (by decide)) T.m_told_pair T.F_told_pair.kp (bk_told_pair_1 T) .nil cst0 ?_
      · refine w_p ?_
        · refine an_cons ?_ ?_
          · exact v_var 1
          · exact an_nil
    · refine g_tup rfl ?_
      · refine g_cons ?_ ?_
        · exact g_name 2 sc.nd
        · refine g_cons ?_ ?_
          · exact g_name 3 sc.nd
          · exact g_nil
  · refine s_cons ?_ ?_
    · refine s_ret ?_
      · refine v_mkE T.kR (ok_Ratio___init__ T) (hr.mono (by decide)) T.mR (bk_Ratio___init___2 T) (cst1 1) ?_
        · refine w_p ?_
          · refine an_cons ?_ ?_
            · refine v_sub ?_ ?_
              · refine tV_B ?_
                · refine v_mul ?_ ?_
                  · refine tV_B ?_
                    · refine v_fld (i := 0) ?_ T.cR T.n_own_top
                      · exact v_varB 0
                  · exact v_varB 3
              · refine tV_B ?_
                · refine v_mul ?_ ?_
                  · exact v_varB 2
                  · refine tV_B ?_
                    · refine v_fld (i := 1) ?_ T.cR T.n_own_bottom
                      · exact v_varB 0
            · refine an_cons ?_ ?_
              · refine v_mul ?_ ?_
                · refine tV_B ?_
                  · refine v_fld (i := 1) ?_ T.cR T.n_own_bottom
                    · exact v_varB 0
                · exact v_varB 3
              · exact an_nil
    · exact s_nil
theorem ok_Ratio___rsub__ {P : Program} {w : World} {K : PySem.W.Frag} {mg : Str → Option Value} {base : Heap} (T : Tx K mg) : FnG true P w K mg base 4 T.f_Ratio___rsub__ T.d_Ratio___rsub__ ["self", "other"] (spF K 2 (c_Ratio___rsub__ T.CR)) := def_ofE (b := b_Ratio___rsub__ T.CR) rfl rfl rfl T.F_Ratio___rsub__ sc_Ratio___rsub__ fun cdv A outer s H hr P0 F0 H0 => by
  have sc := sc_Ratio___rsub__
  refine s_cons ?_ ?_
  · refine s_asg ?_ ?_
    · refine v_fn (ok_told_pair T) (hr.mono (by decide)) T.m_told_pair T.F_told_pair.kp (bk_told_pair_1 T) .nil cst0 ?_
      · refine w_p ?_
        · refine an_cons ?_ ?_
          · exact v_var 1
          · exact an_nil
    · refine g_tup rfl ?_
      · refine g_cons ?_ ?_
        · exact g_name 2 sc.nd
        · refine g_cons ?_ ?_
          · exact g_name 3 sc.nd
          · exact g_nil
  · refine s_cons ?_ ?_
    · refine s_ret ?_
      · refine v_mkE T.kR (ok_Ratio___init__ T) (hr.mono (by decide)) T.mR (bk_Ratio___init___2 T) (cst1 1) ?_
        · refine w_p ?_
          · refine an_cons ?_ ?_
            · refine v_sub ?_ ?_
              · refine tV_B ?_
                · refine v_mul ?_ ?_
                  · exact v_varB 2
                  · refine tV_B ?_
                    · refine v_fld (i := 1) ?_ T.cR T.n_own_bottom
                      · exact v_varB 0
              · refine tV_B ?_
                · refine v_mul ?_ ?_
                  · refine tV_B ?_
                    · refine v_fld (i := 0) ?_ T.cR T.n_own_top
                      · exact v_varB 0
                  · exact v_varB 3
            · refine an_cons ?_ ?_
              · refine v_mul ?_ ?_
                · refine tV_B ?_
                  · refine v_fld (i := 1) ?_ T.cR T.n_own_bottom
                    · exact v_varB 0
                · exact v_varB 3
              · exact an_nil
    · exact s_nil
theorem ok_Ratio___mul__ {P : Program} {w : World} {K : PySem.W.Frag} {mg : Str → Option Value} {base : Heap} (T : Tx K mg) : FnG true P w K mg base 4 T.f_Ratio___mul__ T.d_Ratio___mul__ ["self", "other"] (spF K 2 (c_Ratio___mul__ T.CR)) := def_ofE (b := b_Ratio___mul__ T.CR) rfl rfl rfl T.F_Ratio___mul__ sc_Ratio___mul__ fun cdv A outer s H hr P0 F0 H0 => by
  have sc := sc_Ratio___mul__
  refine s_cons ?_ ?_
  · refine s_asg ?_ ?_
    · refine v_fn (ok_told_pair T) (hr.mono (by decide)) T.m_told_pair T.F_told_pair.kp (bk_told_pair_1 T) .nil cst0 ?_
      · refine w_p ?_
        · refine an_cons ?_ ?_
          · exact v_var 1
          · exact an_nil
    · refine g_tup rfl ?_
      · refine g_cons ?_ ?_
        · exact g_name 2 sc.nd
        · refine g_cons ?_ ?_
          · exact g_name 3 sc.nd
          · exact g_nil
  · refine s_cons ?_ ?_
    · refine s_ret ?_
      · refine v_mkE T.kR (ok_Ratio___init__ T) (hr.mono (by decide)) T.mR (bk_Ratio___init___2 T) (cst1 1) ?_
        · refine w_p ?_
          · refine an_cons ?_ ?_
            · refine v_mul ?_ ?_
              · refine tV_B ?_
                · refine v_fld (i := 0) ?_ T.cR T.n_own_top
                  · exact v_varB 0
              · exact v_varB 2
            · refine an_cons ?_ ?_
              · refine v_mul ?_ ?_
                · refine tV_B ?_
                  · refine v_fld (i := 1) ?_ T.cR T.n_own_bottom
                    · exact v_varB 0
                · exact v_varB 3
              · exact an_nil
    · exact s_nil
theorem ok_Ratio___rmul__ {P : Program} {w : World} {K : PySem.W.Frag} {mg : Str → Option Value} {base : Heap} (T : Tx K mg) : FnG true P w K mg base 4 T.f_Ratio___rmul__ T.d_Ratio___rmul__ ["self", "other"] (spF K 2 (c_Ratio___rmul__ T.CR)) := def_ofE (b := b_Ratio___rmul__ T.CR) rfl rfl rfl T.F_Ratio___rmul__ sc_Ratio___rmul__ fun cdv A outer s H hr P0 F0 H0 => by
  have sc := sc_Ratio___rmul__
  refine s_cons ?_ ?_
  · refine s_asg ?_ ?_
    · refine v_fn (ok_told_pair T) (hr.mono (by decide)) T.m_told_pair T.F_told_pair.kp (bk_told_pair_1 T) .nil cst0 ?_
      · refine w_p ?_
        · refine an_cons ?_ ?_
          · exact v_var 1
          · exact an_nil
    · refine g_tup rfl ?_
      · refine g_cons ?_ ?_
        · exact g_name 2 sc.nd
        · refine g_cons ?_ ?_
          · exact g_name 3 sc.nd
          · exact g_nil
  · refine s_cons ?_ ?_
    · refine s_ret ?_
      · refine v_mkE T.kR (ok_Ratio___init__ T) (hr.mono (by decide)) T.mR (bk_Ratio___init___2 T) (cst1 1) ?_
        · refine w_p ?_
          · refine an_cons ?_ ?_
            · refine v_mul ?_ ?_
              · refine tV_B ?_
                · refine v_fld (i := 0) ?_ T.cR T.n_own_top
                  · exact v_varB 0
              · exact v_varB 2
            · refine an_cons ?_ ?_
              · refine v_mul ?_ ?_
                · refine tV_B ?_
                  · refine v_fld (i := 1) ?_ T.cR T.n_own_bottom
                    · exact v_varB 0
                · exact v_varB 3
              · exact an_nil
    · exact s_nil
theorem ok_Ratio___neg__ {P : Program} {w : World} {K : PySem.W.Frag} {mg : Str → Option Value} {base : Heap} (T : Tx K mg) : FnG true P w K mg base 4 T.f_Ratio___neg__ T.d_Ratio___neg__ ["self"] (spF K 1 (c_Ratio___neg__ T.CR)) := def_ofE (b := b_Ratio___neg__ T.CR) rfl rfl rfl T.F_Ratio___neg__ sc_Ratio___neg__ fun cdv A outer s H hr P0 F0 H0 => by
  have sc := sc_Ratio___neg__
  refine s_cons ?_ ?_
  · refine s_ret ?_
    · refine v_mkE T.kR (ok_Ratio___init__ T) (hr.mono (by decide)) T.mR (bk_Ratio___init___2 T) (cst1 1) ?_
      · refine w_p ?_
        · refine an_cons ?_ ?_
          · refine v_sub ?_ ?_
            · refine tV_B ?_
              · exact v_int
            · refine tV_B ?_
              · refine v_fld (i := 0) ?_ T.cR T.n_own_top
                · exact v_varB 0
          · refine an_cons ?_ ?_
            · refine v_fld (i := 1) ?_ T.cR T.n_own_bottom
              · exact v_varB 0
            · exact an_nil
  · exact s_nil
theorem ok_Ratio_over {P : Program} {w : World} {K : PySem.W.Frag} {mg : Str → Option Value} {base : Heap} (T : Tx K mg) : FnG true P w K mg base 4 T.f_Ratio_over T.d_Ratio_over ["self", "other"] (spF K 2 (c_Ratio_over T.CR)) := def_ofE (b := b_Ratio_over T.CR) rfl rfl rfl T.F_Ratio_over sc_Ratio_over fun cdv A outer s H hr P0 F0 H0 => by
  have sc := sc_Ratio_over
  refine s_cons ?_ ?_
  · refine s_asg ?_ ?_
    · refine v_fn (ok_told_pair T) (hr.mono (by decide)) T.m_told_pair T.F_told_pair.kp (bk_told_pair_1 T) .nil cst0 ?_
      · refine w_p ?_
        · refine an_cons ?_ ?_
          · exact v_var 1
          · exact an_nil
    · refine g_tup rfl ?_
      · refine g_cons ?_ ?_
        · exact g_name 2 sc.nd
        · refine g_cons ?_ ?_
          · exact g_name 3 sc.nd
          · exact g_nil
  · refine s_cons ?_ ?_
    · refine s_if ?_ ?_ ?_
      · refine v_cmpT op_eq ov_seq ?_ ?_
        · exact v_varB 2
        · refine tV_B ?_
          · exact v_int
      · refine s_cons ?_ ?_
        · exact s_never
        · exact s_nil
      · exact s_nil
    · refine s_cons ?_ ?_
      · refine s_ret ?_
        · refine v_mkE T.kR (ok_Ratio___init__ T) (hr.mono (by decide)) T.mR (bk_Ratio___init___2 T) (cst1 1) ?_
          · refine w_p ?_
            · refine an_cons ?_ ?_
              · refine v_mul ?_ ?_
                · refine tV_B ?_
                  · refine v_fld (i := 0) ?_ T.cR T.n_own_top
                    · exact v_varB 0
                · exact v_varB 3
              · refine an_cons ?_ ?_
                · refine v_mul ?_ ?_
                  · refine tV_B ?_
                    · refine v_fld (i := 1) ?_ T.cR T.n_own_bottom
                      · exact v_varB 0
                  · exact v_varB 2
                · exact an_nil
      · exact s_nil
theorem ok_Ratio_size {P : Program} {w : World} {K : PySem.W.Frag} {mg : Str → Option Value} {base : Heap} (T : Tx K mg) : FnG true P w K mg base 4 T.f_Ratio_size T.d_Ratio_size ["self"] (spF K 1 (c_Ratio_size T.CR)) := def_ofE (b := b_Ratio_size T.CR) rfl rfl rfl T.F_Ratio_size sc_Ratio_size fun cdv A outer s H hr P0 F0 H0 => by
  have sc := sc_Ratio_size
  refine s_cons ?_ ?_
  · refine s_ret ?_
    · refine v_mkE T.kR (ok_Ratio___init__ T) (hr.mono (by decide)) T.mR (bk_Ratio___init___2 T) (cst1 1) ?_
      · refine w_p ?_
        · refine an_cons ?_ ?_
          · refine v_callB call_abs cv_I1 T.b_abs ?_
            · refine ab_cons ?_ ?_
              · refine tV_B ?_
                · refine v_fld (i := 0) ?_ T.cR T.n_own_top
                  · exact v_varB 0
              · exact ab_nil
          · refine an_cons ?_ ?_
            · refine v_fld (i := 1) ?_ T.cR T.n_own_bottom
              · exact v_varB 0
            · exact an_nil
  · exact s_nil
theorem ok_Ratio_is_below {P : Program} {w : World} {K : PySem.W.Frag} {mg : Str → Option Value} {base : Heap} (T : Tx K mg) : FnG true P w K mg base 3 T.f_Ratio_is_below T.d_Ratio_is_below ["self", "other"] (spF K 2 (c_Ratio_is_below T.CR)) := def_ofE (b := b_Ratio_is_below T.CR) rfl rfl rfl T.F_Ratio_is_below sc_Ratio_is_below fun cdv A outer s H hr P0 F0 H0 => by
  have sc := sc_Ratio_is_below
  refine s_cons ?_ ?_
  · refine s_asg ?_ ?_
    · refine v_fn (ok_told_pair T) (hr.mono (by decide)) T.m_told_pair T.F_told_pair.kp (bk_told_pair_1 T) .nil cst0 ?_
      · refine w_p ?_
        · refine an_cons ?_ ?_
          · exact v_var 1
          · exact an_nil
    · refine g_tup rfl ?_
      · refine g_cons ?_ ?_
        · exact g_name 2 sc.nd
        · refine g_cons ?_ ?_
          · exact g_name 3 sc.nd
          · exact g_nil
  · refine s_cons ?_ ?_
    · refine s_ret ?_
      · refine v_cmp op_lt ov_lt ?_ ?_
        · refine tV_B ?_
          · refine v_mul ?_ ?_
            · refine tV_B ?_
              · refine v_fld (i := 0) ?_ T.cR T.n_own_top
                · exact v_varB 0
            · exact v_varB 3
        · refine tV_B ?_
          · refine v_mul ?_ ?_
            · exact v_varB 2
            · refine tV_B ?_
              · refine v_fld (i := 1) ?_ T.cR T.n_own_bottom
                · exact v_varB 0
    · exact s_nil
theorem ok_Ratio_is_at_most {P : Program} {w : World} {K : PySem.W.Frag} {mg : Str → Option Value} {base : Heap} (T : Tx K mg) : FnG true P w K mg base 3 T.f_Ratio_is_at_most T.d_Ratio_is_at_most ["self", "other"] (spF K 2 (c_Ratio_is_at_most T.CR)) := def_ofE (b := b_Ratio_is_at_most T.CR) rfl rfl rfl T.F_Ratio_is_at_most sc_Ratio_is_at_most fun cdv A outer s H hr P0 F0 H0 => by
  have sc := sc_Ratio_is_at_most
  refine s_cons ?_ ?_
  · refine s_asg ?_ ?_
    · refine v_fn (ok_told_pair T) (hr.mono (by decide)) T.m_told_pair T.F_told_pair.kp (bk_told_pair_1 T) .nil cst0 ?_
      · refine w_p ?_
        · refine an_cons ?_ ?_
          · exact v_var 1
          · exact an_nil
    · refine g_tup rfl ?_
      · refine g_cons ?_ ?_
        · exact g_name 2 sc.nd
        · refine g_cons ?_ ?_
          · exact g_name 3 sc.nd
          · exact g_nil
  · refine s_cons ?_ ?_
    · refine s_ret ?_
      · refine v_cmp op_le ov_le ?_ ?_
        · refine tV_B ?_
          · refine v_mul ?_ ?_
            · refine tV_B ?_
              · refine v_fld (i := 0) ?_ T.cR T.n_own_top
                · exact v_varB 0
            · exact v_varB 3
        · refine tV_B ?_
          · refine v_mul ?_ ?_
            · exact v_varB 2
            · refine tV_B ?_
              · refine v_fld (i := 1) ?_ T.cR T.n_own_bottom
                · exact v_varB 0
    · exact s_nil
theorem ok_Ratio___eq__ {P : Program} {w : World} {K : PySem.W.Frag} {mg : Str → Option Value} {base : Heap} (T : Tx K mg) : FnG true P w K mg base 1 T.f_Ratio___eq__ T.d_Ratio___eq__ ["self", "other"] (spF K 2 (c_Ratio___eq__ T.CR)) := def_ofE (b := b_Ratio___eq__ T.CR) rfl rfl rfl T.F_Ratio___eq__ sc_Ratio___eq__ fun cdv A outer s H hr P0 F0 H0 => by
  have sc := sc_Ratio___eq__
  refine s_cons ?_ ?_
  · refine s_if ?_ ?_ ?_
    · refine v_notT ?_
      · refine v_test ?_
        · refine v_isi (T.ok_Ratio) ?_ (pe_glob (v := .ref T.CR) rfl T.mR rfl) (ClsV.own T.CR) T.b_isinstance
          · exact v_varB 1
    · refine s_cons ?_ ?_
      · refine s_ret ?_
        · exact v_bl
      · exact s_nil
    · exact s_nil
  · refine s_cons ?_ ?_
    · refine s_ret ?_
      · refine v_and ?_ ?_
        · refine v_cmp op_eq ov_seq ?_ ?_
          · refine tV_B ?_
            · refine v_fld (i := 0) ?_ T.cR T.n_own_top
              · exact v_varB 0
          · refine tV_B ?_
            · refine v_fld (i := 0) ?_ T.cR T.n_own_top
              · exact v_varB 1
        · refine v_one ?_
          · refine v_cmp op_eq ov_seq ?_ ?_
            · refine tV_B ?_
              · refine v_fld (i := 1) ?_ T.cR T.n_own_bottom
                · exact v_varB 0
            · refine tV_B ?_
              · refine v_fld (i := 1) ?_ T.cR T.n_own_bottom
                · exact v_varB 1
    · exact s_nil
theorem oe_R {X : Cx} (T : Tx X.K X.mg) : OE X true 1 (oe T.CR) := by
  refine ⟨fun C ns ds y r e => ?_, fun C ns ds r e => ?_⟩
  · unfold oe at e
    split at e
    · rename_i a b h1
      have h2 := insD_eq h1
      unfold mk at h2
      injection h2 with c1 c2 c3
      subst c1 c2 c3
      split at e
      · rename_i i
        cases e
        exact ⟨⟨_, rfl, T.niR⟩, T.f_Ratio___eq__, T.d_Ratio___eq__, _, _, ok_Ratio___eq__ T, T.g_eq, T.gf_eq, bk_Ratio___eq__ T, fun pt => eq_int _ a b i pt, T.neR, T.soR⟩
      · split at e
        · rename_i c d h3
          cases e
          have h4 := insD_eq h3
          subst h4
          exact ⟨⟨_, rfl, T.nmR⟩, T.f_Ratio___eq__, T.d_Ratio___eq__, _, _, ok_Ratio___eq__ T, T.g_eq, T.gf_eq, bk_Ratio___eq__ T, fun pt => eq_mk _ a b c d pt, T.neR, T.soR⟩
        · cases e
    · cases e
  · unfold oe at e
    split at e
    · rename_i a b h1
      have e2 : (match insD T.CR (D.ins C ns ds) with
        | some (c, d) => some (decide (a = c) && decide (b = d))
        | none => none) = some r := e
      rw [h1] at e2
      simp at e2
      exact e2
    · cases e
theorem ok_Ratio___str__ {P : Program} {w : World} {K : PySem.W.Frag} {mg : Str → Option Value} {base : Heap} (T : Tx K mg) : FnG true P w K mg base 2 T.f_Ratio___str__ T.d_Ratio___str__ ["self"] (spF K 1 (c_Ratio___str__ T.CR)) := def_ofE (b := b_Ratio___str__ T.CR) rfl rfl rfl T.F_Ratio___str__ sc_Ratio___str__ fun cdv A outer s H hr P0 F0 H0 => by
  have sc := sc_Ratio___str__
  refine s_cons ?_ ?_
  · refine s_if ?_ ?_ ?_
    · refine v_cmpT op_eq ov_seq ?_ ?_
      · refine tV_B ?_
        · refine v_fld (i := 1) ?_ T.cR T.n_own_bottom
          · exact v_varB 0
      · refine tV_B ?_
        · exact v_int
    · refine s_cons ?_ ?_
      · refine s_ret ?_
        · refine v_join1 ?_
          · refine v_fmt ?_
            · refine v_fn (ok_digits_of T) (hr.mono (by decide)) T.m_digits_of T.F_digits_of.kp (bk_digits_of_1 T) .nil cst0 ?_
              · refine w_p ?_
                · refine an_cons ?_ ?_
                  · refine v_fld (i := 0) ?_ T.cR T.n_own_top
                    · exact v_varB 0
                  · exact an_nil
      · exact s_nil
    · exact s_nil
  · refine s_cons ?_ ?_
    · refine s_ret ?_
      · refine v_join ?_
        · refine PJv.cons ?_ ?_
          · refine v_fmt ?_
            · refine v_fn (ok_digits_of T) (hr.mono (by decide)) T.m_digits_of T.F_digits_of.kp (bk_digits_of_1 T) .nil cst0 ?_
              · refine w_p ?_
                · refine an_cons ?_ ?_
                  · refine v_fld (i := 0) ?_ T.cR T.n_own_top
                    · exact v_varB 0
                  · exact an_nil
          · refine PJv.cons ?_ ?_
            · exact v_str
            · refine PJv.cons ?_ ?_
              · refine v_fmt ?_
                · refine v_fn (ok_digits_of T) (hr.mono (by decide)) T.m_digits_of T.F_digits_of.kp (bk_digits_of_1 T) .nil cst0 ?_
                  · refine w_p ?_
                    · refine an_cons ?_ ?_
                      · refine v_fld (i := 1) ?_ T.cR T.n_own_bottom
                        · exact v_varB 0
                      · exact an_nil
              · exact PJv.nil
    · exact s_nil
theorem ok_Ratio___repr__ {P : Program} {w : World} {K : PySem.W.Frag} {mg : Str → Option Value} {base : Heap} (T : Tx K mg) : FnG true P w K mg base 2 T.f_Ratio___repr__ T.d_Ratio___repr__ ["self"] (spF K 1 (c_Ratio___repr__ T.CR)) := def_ofE (b := b_Ratio___repr__ T.CR) rfl rfl rfl T.F_Ratio___repr__ sc_Ratio___repr__ fun cdv A outer s H hr P0 F0 H0 => by
  have sc := sc_Ratio___repr__
  refine s_cons ?_ ?_
  · refine s_ret ?_
    · refine v_join ?_
      · refine PJv.cons ?_ ?_
        · exact v_str
        · refine PJv.cons ?_ ?_
          · refine v_fmt ?_
            · refine v_fn (ok_digits_of T) (hr.mono (by decide)) T.m_digits_of T.F_digits_of.kp (bk_digits_of_1 T) .nil cst0 ?_
              · refine w_p ?_
                · refine an_cons ?_ ?_
                  · refine v_fld (i := 0) ?_ T.cR T.n_own_top
                    · exact v_varB 0
                  · exact an_nil
          · refine PJv.cons ?_ ?_
            · exact v_str
            · refine PJv.cons ?_ ?_
              · refine v_fmt ?_
                · refine v_fn (ok_digits_of T) (hr.mono (by decide)) T.m_digits_of T.F_digits_of.kp (bk_digits_of_1 T) .nil cst0 ?_
                  · refine w_p ?_
                    · refine an_cons ?_ ?_
                      · refine v_fld (i := 1) ?_ T.cR T.n_own_bottom
                        · exact v_varB 0
                      · exact an_nil
              · refine PJv.cons ?_ ?_
                · exact v_str
                · exact PJv.nil
  · exact s_nil
theorem ok_is_number {P : Program} {w : World} {K : PySem.W.Frag} {mg : Str → Option Value} {base : Heap} (T : Tx K mg) : FnG true P w K mg base 2 T.f_is_number T.d_is_number ["value"] (spF K 1 (c_is_number T.CR)) := def_ofE (b := b_is_number T.CR) rfl rfl rfl T.F_is_number sc_is_number fun cdv A outer s H hr P0 F0 H0 => by
  have sc := sc_is_number
  refine s_cons ?_ ?_
  · refine s_ret ?_
    · refine v_or ?_ ?_
      · refine v_fn (ok_is_integer T) (hr.mono (by decide)) T.m_is_integer T.F_is_integer.kp (bk_is_integer_1 T) .nil cst0 ?_
        · refine w_p ?_
          · refine an_cons ?_ ?_
            · exact v_var 0
            · exact an_nil
      · refine v_one ?_
        · refine v_isi (T.ok_Ratio) ?_ (pe_glob (v := .ref T.CR) rfl T.mR rfl) (ClsV.own T.CR) T.b_isinstance
          · exact v_varB 0
  · exact s_nil
theorem ok_ratio_of {P : Program} {w : World} {K : PySem.W.Frag} {mg : Str → Option Value} {base : Heap} (T : Tx K mg) : FnG true P w K mg base 4 T.f_ratio_of T.d_ratio_of ["number"] (spF K 1 (c_ratio_of T.CR)) := def_ofE (b := b_ratio_of T.CR) rfl rfl rfl T.F_ratio_of sc_ratio_of fun cdv A outer s H hr P0 F0 H0 => by
  have sc := sc_ratio_of
  refine s_cons ?_ ?_
  · refine s_ret ?_
    · refine v_ifE ?_ ?_ ?_
      · refine v_test ?_
        · refine v_isi (T.ok_Ratio) ?_ (pe_glob (v := .ref T.CR) rfl T.mR rfl) (ClsV.own T.CR) T.b_isinstance
          · exact v_varB 0
      · exact v_var 0
      · refine v_mkE T.kR (ok_Ratio___init__ T) (hr.mono (by decide)) T.mR (bk_Ratio___init___1 T) (cst1 1) ?_
        · refine w_p ?_
          · refine an_cons ?_ ?_
            · exact v_var 0
            · exact an_nil
  · exact s_nil
theorem ok_want_number {P : Program} {w : World} {K : PySem.W.Frag} {mg : Str → Option Value} {base : Heap} (T : Tx K mg) : FnG true P w K mg base 5 T.f_want_number T.d_want_number ["value"] (spF K 1 (c_want_number T.CR)) := def_ofE (b := b_want_number T.CR) rfl rfl rfl T.F_want_number sc_want_number fun cdv A outer s H hr P0 F0 H0 => by
  have sc := sc_want_number
  refine s_cons ?_ ?_
  · refine s_if ?_ ?_ ?_
    · refine v_notT ?_
      · refine v_test ?_
        · refine v_fn (ok_is_number T) (hr.mono (by decide)) T.m_is_number T.F_is_number.kp (bk_is_number_1 T) .nil cst0 ?_
          · refine w_p ?_
            · refine an_cons ?_ ?_
              · exact v_var 0
              · exact an_nil
    · refine s_cons ?_ ?_
      · exact s_never
      · exact s_nil
    · exact s_nil
  · refine s_cons ?_ ?_
    · refine s_ret ?_
      · refine v_fn (ok_ratio_of T) (hr.mono (by decide)) T.m_ratio_of T.F_ratio_of.kp (bk_ratio_of_1 T) .nil cst0 ?_
        · refine w_p ?_
          · refine an_cons ?_ ?_
            · exact v_var 0
            · exact an_nil
    · exact s_nil
theorem ok_total_of {P : Program} {w : World} {K : PySem.W.Frag} {mg : Str → Option Value} {base : Heap} (T : Tx K mg) : FnG true P w K mg base 5 T.f_total_of T.d_total_of ["ratios"] (spF K 1 (c_total_of T.CR)) := def_ofE (b := b_total_of T.CR) rfl rfl rfl T.F_total_of sc_total_of fun cdv A outer s H hr P0 F0 H0 => by
  have sc := sc_total_of
  refine s_cons ?_ ?_
  · refine s_set 1 sc.nd ?_
    · refine v_mkE T.kR (ok_Ratio___init__ T) (hr.mono (by decide)) T.mR (bk_Ratio___init___1 T) (cst1 1) ?_
      · refine w_p ?_
        · refine an_cons ?_ ?_
          · exact v_int
          · exact an_nil
  · refine s_cons ?_ ?_
    · refine s_for PassesOwn.never rfl ?_ ?_ ?_
      · refine i_list ?_
        · exact v_var 0
      · exact g_name 2 sc.nd
      · refine s_cons ?_ ?_
        · refine s_set 1 sc.nd ?_
          · refine v_binP (op_own T.o_Add int_add (ok_Ratio___add__ T) (ok_Ratio___radd__ T) (hr.mono (by decide)) (bk_Ratio___add__ T) (bk_Ratio___radd__ T) (pu_Ratio___add__ T.CR) (pu_Ratio___radd__ T.CR)) op_gOwn ?_ ?_
            · exact v_var 1
            · exact v_var 2
        · exact s_nil
    · refine s_cons ?_ ?_
      · refine s_ret ?_
        · exact v_var 1
      · exact s_nil
theorem ok_Ratio_total {P : Program} {w : World} {K : PySem.W.Frag} {mg : Str → Option Value} {base : Heap} (T : Tx K mg) : FnG true P w K mg base 6 T.f_Ratio_total T.d_Ratio_total ["cls", "numbers"] (spC K T.CR 1 (c_Ratio_total T.CR)) := cls_ofE (b := b_Ratio_total T.CR) rfl rfl rfl T.F_Ratio_total sc_Ratio_total fun cdv A outer s H hr P0 F0 H0 => by
  have sc := sc_Ratio_total
  refine s_cons ?_ ?_
  · refine s_if ?_ ?_ ?_
    · refine v_notT ?_
      · refine v_test ?_
        · refine v_fn (ok_is_list T) (hr.mono (by decide)) T.m_is_list T.F_is_list.kp (bk_is_list_1 T) .nil cst0 ?_
          · refine w_p ?_
            · refine an_cons ?_ ?_
              · exact v_var 1
              · exact an_nil
    · refine s_cons ?_ ?_
      · exact s_never
      · exact s_nil
    · exact s_nil
  · refine s_cons ?_ ?_
    · refine s_ret ?_
      · refine v_fn (ok_total_of T) (hr.mono (by decide)) T.m_total_of T.F_total_of.kp (bk_total_of_1 T) .nil cst0 ?_
        · refine w_p ?_
          · refine an_cons ?_ ?_
            · refine v_N ?_
              · refine n_comp (own := [("number", 2)]) rfl sc.nd ?_ (blkOk_by (by show blkC ["cls", "numbers", "number"] (defScope st_Ratio_total) _ _ = true; decide +kernel)) (by decide) (fun _ _ _ _ _ => ?_) (fun _ _ _ _ _ => ?_) (fun _ _ _ _ _ => ?_)
                · refine i_list ?_
                  · exact v_var 1
                · exact gv_name 2 sc.nd
                · exact c_none
                · refine v_fn (ok_want_number T) (hr.mono (by decide)) T.m_want_number T.F_want_number.kp (bk_want_number_1 T) .nil cst0 ?_
                  · refine w_p ?_
                    · refine an_cons ?_ ?_
                      · exact v_var 2
                      · exact an_nil
            · exact an_nil
    · exact s_nil
theorem ok_Ratio_total_tup {P : Program} {w : World} {K : PySem.W.Frag} {mg : Str → Option Value} {base : Heap} (T : Tx K mg) : FnG true P w K mg base 6 T.f_Ratio_total T.d_Ratio_total ["cls", "numbers"] (spC K T.CR 1 (c_Ratio_total_tup T.CR)) := cls_ofE (b := b_Ratio_total_tup T.CR) rfl rfl rfl T.F_Ratio_total sc_Ratio_total fun cdv A outer s H hr P0 F0 H0 => by
  have sc := sc_Ratio_total
  refine s_cons ?_ ?_
  · refine s_if ?_ ?_ ?_
    · refine v_notT ?_
      · refine v_test ?_
        · refine v_fn (ok_is_list T) (hr.mono (by decide)) T.m_is_list T.F_is_list.kp (bk_is_list_1 T) .nil cst0 ?_
          · refine w_p ?_
            · refine an_cons ?_ ?_
              · exact v_var 1
              · exact an_nil
    · refine s_cons ?_ ?_
      · exact s_never
      · exact s_nil
    · exact s_nil
  · refine s_cons ?_ ?_
    · refine s_ret ?_
      · refine v_fn (ok_total_of T) (hr.mono (by decide)) T.m_total_of T.F_total_of.kp (bk_total_of_1 T) .nil cst0 ?_
        · refine w_p ?_
          · refine an_cons ?_ ?_
            · refine v_N ?_
              · refine n_comp (own := [("number", 2)]) rfl sc.nd ?_ (blkOk_by (by show blkC ["cls", "numbers", "number"] (defScope st_Ratio_total) _ _ = true; decide +kernel)) (by decide) (fun _ _ _ _ _ => ?_) (fun _ _ _ _ _ => ?_) (fun _ _ _ _ _ => ?_)
                · refine i_tup ?_
                  · exact v_var 1
                · exact gv_name 2 sc.nd
                · exact c_none
                · refine v_fn (ok_want_number T) (hr.mono (by decide)) T.m_want_number T.F_want_number.kp (bk_want_number_1 T) .nil cst0 ?_
                  · refine w_p ?_
                    · refine an_cons ?_ ?_
                      · exact v_var 2
                      · exact an_nil
            · exact an_nil
    · exact s_nil
theorem ok__law_pot {P : Program} {w : World} {K : PySem.W.Frag} {mg : Str → Option Value} {base : Heap} (T : Tx K mg) : FnG true P w K mg base 1 T.f__law_pot T.d__law_pot ["_law_script", "_law_k"] (spNw K 2 (c__law_pot T.CR)) := nw_ofE (b := b__law_pot T.CR) rfl rfl rfl T.F__law_pot sc__law_pot fun cdv A outer s H hr P0 F0 H0 => by
  have sc := sc__law_pot
  refine q_cons ?_ ?_
  · refine s_set 2 sc.nd ?_
    · refine v_add ?_ ?_
      · refine tV_B ?_
        · refine v_mul ?_ ?_
          · refine tV_B ?_
            · exact v_int
          · exact v_varB 1
      · refine tV_B ?_
        · exact v_int
  · refine q_cons ?_ ?_
    · refine s_if ?_ ?_ ?_
      · refine v_cmpT op_lt ov_lt ?_ ?_
        · exact v_varB 1
        · refine tV_B ?_
          · refine v_callB call_len cv_len T.b_len ?_
            · refine ab_cons ?_ ?_
              · exact v_varB 0
              · exact ab_nil
      · refine s_cons ?_ ?_
        · refine s_set 2 sc.nd ?_
          · refine v_callB call_abs cv_I1 T.b_abs ?_
            · refine ab_cons ?_ ?_
              · refine tV_B ?_
                · refine v_ix ?_ ?_
                  · exact v_varB 0
                  · exact v_varB 1
              · exact ab_nil
        · exact s_nil
      · exact s_nil
    · refine q_ret ?_
      · refine n_lst ?_
        · refine a_cons ?_ ?_
          · refine v_callB (call_max2 rfl) cv_I2 T.b_max ?_
            · refine ab_cons ?_ ?_
              · refine tV_B ?_
                · exact v_int
              · refine ab_cons ?_ ?_
                · refine tV_B ?_
                  · refine v_sub ?_ ?_
                    · exact v_varB 2
                    · refine tV_B ?_
                      · refine v_pow ?_ ?_
                        · refine tV_B ?_
                          · exact v_int
                        · refine tV_B ?_
                          · exact v_int
                · exact ab_nil
          · refine a_cons ?_ ?_
            · refine v_add ?_ ?_
              · refine tV_B ?_
                · refine v_mod ?_ ?_
                  · refine tV_B ?_
                    · refine v_callTy call_int1 cv_int T.b_int ?_
                      · refine ab_cons ?_ ?_
                        · refine tV_B ?_
                          · refine v_add ?_ ?_
                            · refine tV_B ?_
                              · refine v_mul ?_ ?_
                                · refine tV_B ?_
                                  · refine v_mod ?_ ?_
                                    · refine tV_B ?_
                                      · refine v_callTy call_int1 cv_int T.b_int ?_
                                        · refine ab_cons ?_ ?_
                                          · exact v_varB 2
                                          · exact ab_nil
                                    · refine tV_B ?_
                                      · exact v_int
                                · refine tV_B ?_
                                  · refine v_add ?_ ?_
                                    · refine tV_B ?_
                                      · refine v_mul ?_ ?_
                                        · refine tV_B ?_
                                          · exact v_int
                                        · exact v_varB 1
                                    · refine tV_B ?_
                                      · exact v_int
                            · refine tV_B ?_
                              · exact v_int
                        · exact ab_nil
                  · refine tV_B ?_
                    · exact v_int
              · refine tV_B ?_
                · exact v_int
            · exact a_nil
theorem ok__law_draw {P : Program} {w : World} {K : PySem.W.Frag} {mg : Str → Option Value} {base : Heap} (T : Tx K mg) : FnG true P w K mg base 1 T.f__law_draw T.d__law_draw ["_law_pot_here", "_law_size"] (spF K 2 (c__law_draw T.CR)) := def_ofE (b := b__law_draw T.CR) rfl rfl rfl T.F__law_draw sc__law_draw fun cdv A outer s H hr P0 F0 H0 => by
  have sc := sc__law_draw
  refine s_cons ?_ ?_
  · refine s_if ?_ ?_ ?_
    · refine v_cmpT op_gt ov_gt ?_ ?_
      · refine tV_B ?_
        · exact v_potix 0 0
      · refine tV_B ?_
        · exact v_int
    · refine s_cons ?_ ?_
      · refine s_asg ?_ ?_
        · refine v_callB call_divmodW cv_divmod T.b_divmod ?_
          · refine ab_cons ?_ ?_
            · refine tV_B ?_
              · exact v_potix 0 0
            · refine ab_cons ?_ ?_
              · exact v_varB 1
              · exact ab_nil
        · refine g_tup rfl ?_
          · refine g_cons ?_ ?_
            · exact g_pot 0 0
            · refine g_cons ?_ ?_
              · exact g_name 2 sc.nd
              · exact g_nil
      · refine s_cons ?_ ?_
        · refine s_ret ?_
          · exact v_var 2
        · exact s_nil
    · exact s_nil
  · refine s_cons ?_ ?_
    · refine s_asg ?_ ?_
      · refine v_mod ?_ ?_
        · refine tV_B ?_
          · refine v_callTy call_int1 cv_int T.b_int ?_
            · refine ab_cons ?_ ?_
              · refine tV_B ?_
                · refine v_add ?_ ?_
                  · refine tV_B ?_
                    · refine v_mul ?_ ?_
                      · refine tV_B ?_
                        · exact v_potix 0 1
                      · refine tV_B ?_
                        · exact v_int
                  · refine tV_B ?_
                    · exact v_int
              · exact ab_nil
        · refine tV_B ?_
          · exact v_int
      · exact g_pot 0 1
    · refine s_cons ?_ ?_
      · refine s_ret ?_
        · refine v_mod ?_ ?_
          · refine tV_B ?_
            · refine v_callTy call_int1 cv_int T.b_int ?_
              · refine ab_cons ?_ ?_
                · refine tV_B ?_
                  · refine v_fdiv ?_ ?_
                    · refine tV_B ?_
                      · refine v_mod ?_ ?_
                        · refine tV_B ?_
                          · refine v_callTy call_int1 cv_int T.b_int ?_
                            · refine ab_cons ?_ ?_
                              · refine tV_B ?_
                                · refine v_mul ?_ ?_
                                  · refine tV_B ?_
                                    · exact v_potix 0 1
                                  · refine tV_B ?_
                                    · exact v_potix 0 1
                              · exact ab_nil
                        · refine tV_B ?_
                          · exact v_int
                    · refine tV_B ?_
                      · exact v_int
                · exact ab_nil
          · exact v_varB 1
      · exact s_nil
theorem ok__law_pick {P : Program} {w : World} {K : PySem.W.Frag} {mg : Str → Option Value} {base : Heap} (T : Tx K mg) : FnG true P w K mg base 2 T.f__law_pick T.d__law_pick ["_law_pot_here", "_law_some"] (spF K 2 (c__law_pick T.CR)) := def_ofE (b := b__law_pick T.CR) rfl rfl rfl T.F__law_pick sc__law_pick fun cdv A outer s H hr P0 F0 H0 => by
  have sc := sc__law_pick
  refine s_cons ?_ ?_
  · refine s_ret ?_
    · refine v_ix ?_ ?_
      · exact v_varB 1
      · refine tV_B ?_
        · refine v_fn (ok__law_draw T) (hr.mono (by decide)) T.m__law_draw T.F__law_draw.kp (bk__law_draw_2 T) .nil cst0 ?_
          · refine w_p ?_
            · refine an_cons ?_ ?_
              · exact v_var 0
              · refine an_cons ?_ ?_
                · refine v_callB call_len cv_len T.b_len ?_
                  · refine ab_cons ?_ ?_
                    · exact v_varB 1
                    · exact ab_nil
                · exact an_nil
  · exact s_nil
theorem ok__law_top {P : Program} {w : World} {K : PySem.W.Frag} {mg : Str → Option Value} {base : Heap} (T : Tx K mg) : FnG true P w K mg base 2 T.f__law_top T.d__law_top ["_law_pot_here"] (spF K 1 (c__law_top T.CR)) := def_ofE (b := b__law_top T.CR) rfl rfl rfl T.F__law_top sc__law_top fun cdv A outer s H hr P0 F0 H0 => by
  have sc := sc__law_top
  refine s_cons ?_ ?_
  · refine s_set 1 sc.nd ?_
    · refine v_fn (ok__law_draw T) (hr.mono (by decide)) T.m__law_draw T.F__law_draw.kp (bk__law_draw_2 T) .nil cst0 ?_
      · refine w_p ?_
        · refine an_cons ?_ ?_
          · exact v_var 0
          · refine an_cons ?_ ?_
            · exact v_int
            · exact an_nil
  · refine s_cons ?_ ?_
    · refine s_if ?_ ?_ ?_
      · refine v_cmpT op_lt ov_lt ?_ ?_
        · exact v_varB 1
        · refine tV_B ?_
          · exact v_int
      · refine s_cons ?_ ?_
        · refine s_ret ?_
          · refine v_sub ?_ ?_
            · refine tV_B ?_
              · refine v_fn (ok__law_draw T) (hr.mono (by decide)) T.m__law_draw T.F__law_draw.kp (bk__law_draw_2 T) .nil cst0 ?_
                · refine w_p ?_
                  · refine an_cons ?_ ?_
                    · exact v_var 0
                    · refine an_cons ?_ ?_
                      · exact v_int
                      · exact an_nil
            · refine tV_B ?_
              · exact v_int
        · exact s_nil
      · exact s_nil
    · refine s_cons ?_ ?_
      · refine s_set 2 sc.nd ?_
        · exact v_int
      · refine s_cons ?_ ?_
        · refine s_for PassesOwn.never rfl ?_ ?_ ?_
          · refine i_rng1 T.b_range ?_
            · refine a_cons ?_ ?_
              · refine v_ifE ?_ ?_ ?_
                · refine v_cmpT op_eq ov_seq ?_ ?_
                  · exact v_varB 1
                  · refine tV_B ?_
                    · exact v_int
                · exact v_int
                · exact v_int
              · exact a_nil
          · exact g_name 3 sc.nd
          · refine s_cons ?_ ?_
            · refine s_set 2 sc.nd ?_
              · refine v_add ?_ ?_
                · refine tV_B ?_
                  · refine v_mul ?_ ?_
                    · exact v_varB 2
                    · refine tV_B ?_
                      · refine v_pow ?_ ?_
                        · refine tV_B ?_
                          · exact v_int
                        · refine tV_B ?_
                          · exact v_int
                · refine tV_B ?_
                  · refine v_fn (ok__law_draw T) (hr.mono (by decide)) T.m__law_draw T.F__law_draw.kp (bk__law_draw_2 T) .nil cst0 ?_
                    · refine w_p ?_
                      · refine an_cons ?_ ?_
                        · exact v_var 0
                        · refine an_cons ?_ ?_
                          · refine v_pow ?_ ?_
                            · refine tV_B ?_
                              · exact v_int
                            · refine tV_B ?_
                              · exact v_int
                          · exact an_nil
            · exact s_nil
        · refine s_cons ?_ ?_
          · refine s_ret ?_
            · refine v_ifE ?_ ?_ ?_
              · refine v_cmpT op_eq ov_seq ?_ ?_
                · refine tV_B ?_
                  · refine v_fn (ok__law_draw T) (hr.mono (by decide)) T.m__law_draw T.F__law_draw.kp (bk__law_draw_2 T) .nil cst0 ?_
                    · refine w_p ?_
                      · refine an_cons ?_ ?_
                        · exact v_var 0
                        · refine an_cons ?_ ?_
                          · exact v_int
                          · exact an_nil
                · refine tV_B ?_
                  · exact v_int
              · exact v_var 2
              · refine v_sub ?_ ?_
                · refine tV_B ?_
                  · exact v_int
                · exact v_varB 2
          · exact s_nil
theorem ok__law_whole {P : Program} {w : World} {K : PySem.W.Frag} {mg : Str → Option Value} {base : Heap} (T : Tx K mg) : FnG true P w K mg base 2 T.f__law_whole T.d__law_whole ["_law_pot_here"] (spF K 1 (c__law_whole T.CR)) := def_ofE (b := b__law_whole T.CR) rfl rfl rfl T.F__law_whole sc__law_whole fun cdv A outer s H hr P0 F0 H0 => by
  have sc := sc__law_whole
  refine s_cons ?_ ?_
  · refine s_ret ?_
    · refine v_ifE ?_ ?_ ?_
      · refine v_cmpT op_eq ov_seq ?_ ?_
        · refine tV_B ?_
          · refine v_fn (ok__law_draw T) (hr.mono (by decide)) T.m__law_draw T.F__law_draw.kp (bk__law_draw_2 T) .nil cst0 ?_
            · refine w_p ?_
              · refine an_cons ?_ ?_
                · exact v_var 0
                · refine an_cons ?_ ?_
                  · exact v_int
                  · exact an_nil
        · refine tV_B ?_
          · exact v_int
      · refine v_sub ?_ ?_
        · refine tV_B ?_
          · refine v_fn (ok__law_draw T) (hr.mono (by decide)) T.m__law_draw T.F__law_draw.kp (bk__law_draw_2 T) .nil cst0 ?_
            · refine w_p ?_
              · refine an_cons ?_ ?_
                · exact v_var 0
                · refine an_cons ?_ ?_
                  · exact v_int
                  · exact an_nil
        · refine tV_B ?_
          · exact v_int
      · refine v_sub ?_ ?_
        · refine tV_B ?_
          · refine v_fn (ok__law_draw T) (hr.mono (by decide)) T.m__law_draw T.F__law_draw.kp (bk__law_draw_2 T) .nil cst0 ?_
            · refine w_p ?_
              · refine an_cons ?_ ?_
                · exact v_var 0
                · refine an_cons ?_ ?_
                  · exact v_int
                  · exact an_nil
        · refine tV_B ?_
          · exact v_int
  · exact s_nil
theorem ok__law_pair {P : Program} {w : World} {K : PySem.W.Frag} {mg : Str → Option Value} {base : Heap} (T : Tx K mg) : FnG true P w K mg base 3 T.f__law_pair T.d__law_pair ["_law_pot_here"] (spF K 1 (c__law_pair T.CR)) := def_ofE (b := b__law_pair T.CR) rfl rfl rfl T.F__law_pair sc__law_pair fun cdv A outer s H hr P0 F0 H0 => by
  have sc := sc__law_pair
  refine s_cons ?_ ?_
  · refine s_set 1 sc.nd ?_
    · refine v_ifE ?_ ?_ ?_
      · refine v_cmpT op_eq ov_seq ?_ ?_
        · refine tV_B ?_
          · refine v_fn (ok__law_draw T) (hr.mono (by decide)) T.m__law_draw T.F__law_draw.kp (bk__law_draw_2 T) .nil cst0 ?_
            · refine w_p ?_
              · refine an_cons ?_ ?_
                · exact v_var 0
                · refine an_cons ?_ ?_
                  · exact v_int
                  · exact an_nil
        · refine tV_B ?_
          · exact v_int
      · refine v_fn (ok__law_top T) (hr.mono (by decide)) T.m__law_top T.F__law_top.kp (bk__law_top_1 T) .nil cst0 ?_
        · refine w_p ?_
          · refine an_cons ?_ ?_
            · exact v_var 0
            · exact an_nil
      · refine v_add ?_ ?_
        · refine tV_B ?_
          · exact v_int
        · refine tV_B ?_
          · refine v_fn (ok__law_draw T) (hr.mono (by decide)) T.m__law_draw T.F__law_draw.kp (bk__law_draw_2 T) .nil cst0 ?_
            · refine w_p ?_
              · refine an_cons ?_ ?_
                · exact v_var 0
                · refine an_cons ?_ ?_
                  · exact v_int
                  · exact an_nil
  · refine s_cons ?_ ?_
    · refine s_ret ?_
      · refine v_tup ?_
        · refine a_cons ?_ ?_
          · refine v_fn (ok__law_top T) (hr.mono (by decide)) T.m__law_top T.F__law_top.kp (bk__law_top_1 T) .nil cst0 ?_
            · refine w_p ?_
              · refine an_cons ?_ ?_
                · exact v_var 0
                · exact an_nil
          · refine a_cons ?_ ?_
            · refine v_ifE ?_ ?_ ?_
              · refine v_cmpT op_ne ov_sne ?_ ?_
                · exact v_varB 1
                · refine tV_B ?_
                  · exact v_int
              · exact v_var 1
              · exact v_int
            · exact a_nil
    · exact s_nil
theorem ok__law_common {P : Program} {w : World} {K : PySem.W.Frag} {mg : Str → Option Value} {base : Heap} (T : Tx K mg) : FnG true P w K mg base 1 T.f__law_common T.d__law_common ["_law_one", "_law_other"] (spF K 2 (c__law_common T.CR)) := def_ofE (b := b__law_common T.CR) rfl rfl rfl T.F__law_common sc__law_common fun cdv A outer s H hr P0 F0 H0 => by
  have sc := sc__law_common
  refine s_cons ?_ ?_
  · refine s_par 2 3 rfl sc.nd ?_
    · refine a_cons ?_ ?_
      · refine v_callB call_abs cv_I1 T.b_abs ?_
        · refine ab_cons ?_ ?_
          · exact v_varB 0
          · exact ab_nil
      · refine a_cons ?_ ?_
        · refine v_callB call_abs cv_I1 T.b_abs ?_
          · refine ab_cons ?_ ?_
            · exact v_varB 1
            · exact ab_nil
        · exact a_nil
  · refine s_cons ?_ ?_
    · refine s_while 2000 PassesOwn.never ?_ ?_
      · refine v_cmpT op_gt ov_gt ?_ ?_
        · exact v_varB 3
        · refine tV_B ?_
          · exact v_int
      · refine s_cons ?_ ?_
        · refine s_par 2 3 rfl sc.nd ?_
          · refine a_cons ?_ ?_
            · exact v_var 3
            · refine a_cons ?_ ?_
              · refine v_mod ?_ ?_
                · exact v_varB 2
                · exact v_varB 3
              · exact a_nil
        · exact s_nil
    · refine s_cons ?_ ?_
      · refine s_ret ?_
        · exact v_var 2
      · exact s_nil
theorem ok__law_is {P : Program} {w : World} {K : PySem.W.Frag} {mg : Str → Option Value} {base : Heap} (T : Tx K mg) : FnG true P w K mg base 5 T.f__law_is T.d__law_is ["_law_ratio", "_law_top_here", "_law_bottom"] (spF K 3 (c__law_is T.CR)) := def_ofE (b := b__law_is T.CR) rfl rfl rfl T.F__law_is sc__law_is fun cdv A outer s H hr P0 F0 H0 => by
  have sc := sc__law_is
  refine s_cons ?_ ?_
  · refine s_if ?_ ?_ ?_
    · refine PW.pt ?_
      · refine w_or ?_ ?_
        · refine v_notT ?_
          · refine v_test ?_
            · refine v_isi (T.ok_Ratio) ?_ (pe_glob (v := .ref T.CR) rfl T.mR rfl) (ClsV.own T.CR) T.b_isinstance
              · exact v_varB 0
        · refine w_or ?_ ?_
          · refine v_cmpT op_lt ov_lt ?_ ?_
            · refine tV_B ?_
              · refine v_prop ?_ T.cR T.p_bottom (ok_Ratio_bottom T) (hr.mono (by decide)) (bk_Ratio_bottom T)
                · exact v_var 0
            · refine tV_B ?_
              · exact v_int
          · refine w_or ?_ ?_
            · refine v_cmpT op_ne ov_sne ?_ ?_
              · refine tV_B ?_
                · refine v_mul ?_ ?_
                  · refine tV_B ?_
                    · refine v_prop ?_ T.cR T.p_top (ok_Ratio_top T) (hr.mono (by decide)) (bk_Ratio_top T)
                      · exact v_var 0
                  · exact v_varB 2
              · refine tV_B ?_
                · refine v_mul ?_ ?_
                  · exact v_varB 1
                  · refine tV_B ?_
                    · refine v_prop ?_ T.cR T.p_bottom (ok_Ratio_bottom T) (hr.mono (by decide)) (bk_Ratio_bottom T)
                      · exact v_var 0
            · refine w_or1 ?_
              · refine v_cmpT op_ne ov_sne ?_ ?_
                · refine tV_B ?_
                  · refine v_fn (ok__law_common T) (hr.mono (by decide)) T.m__law_common T.F__law_common.kp (bk__law_common_2 T) .nil cst0 ?_
                    · refine w_p ?_
                      · refine an_cons ?_ ?_
                        · refine v_prop ?_ T.cR T.p_top (ok_Ratio_top T) (hr.mono (by decide)) (bk_Ratio_top T)
                          · exact v_var 0
                        · refine an_cons ?_ ?_
                          · refine v_prop ?_ T.cR T.p_bottom (ok_Ratio_bottom T) (hr.mono (by decide)) (bk_Ratio_bottom T)
                            · exact v_var 0
                          · exact an_nil
                · refine tV_B ?_
                  · exact v_int
    · refine s_cons ?_ ?_
      · refine s_ret ?_
        · exact v_bl
      · exact s_nil
    · exact s_nil
  · refine s_cons ?_ ?_
    · refine s_set 3 sc.nd ?_
      · refine v_add ?_ ?_
        · refine tV_B ?_
          · refine v_callT1 call_str_int cp_strI T.b_str ?_
            · refine v_prop ?_ T.cR T.p_top (ok_Ratio_top T) (hr.mono (by decide)) (bk_Ratio_top T)
              · exact v_var 0
        · refine tV_B ?_
          · refine v_ifE ?_ ?_ ?_
            · refine v_cmpT op_ne ov_sne ?_ ?_
              · refine tV_B ?_
                · refine v_prop ?_ T.cR T.p_bottom (ok_Ratio_bottom T) (hr.mono (by decide)) (bk_Ratio_bottom T)
                  · exact v_var 0
              · refine tV_B ?_
                · exact v_int
            · refine v_add ?_ ?_
              · refine tV_B ?_
                · exact v_str
              · refine tV_B ?_
                · refine v_callT1 call_str_int cp_strI T.b_str ?_
                  · refine v_prop ?_ T.cR T.p_bottom (ok_Ratio_bottom T) (hr.mono (by decide)) (bk_Ratio_bottom T)
                    · exact v_var 0
            · exact v_str
    · refine s_cons ?_ ?_
      · refine s_if ?_ ?_ ?_
        · refine PW.pt ?_
          · refine w_or ?_ ?_
            · refine v_cmpT op_ne ov_sne ?_ ?_
              · refine tV_B ?_
                · refine v_callT1 (call_strO T.g_str T.gf_str (ok_Ratio___str__ T) (hr.mono (by decide)) (bk_Ratio___str__ T) (pu_Ratio___str__ T.CR)) cp_own T.b_str ?_
                  · exact v_var 0
              · exact v_varB 3
            · refine w_or1 ?_
              · refine v_cmpT op_ne ov_sne ?_ ?_
                · refine tV_B ?_
                  · refine v_call1 (call_reprO T.g_repr T.gf_repr (ok_Ratio___repr__ T) (hr.mono (by decide)) (bk_Ratio___repr__ T) (pu_Ratio___repr__ T.CR)) cp_own T.b_repr ?_
                    · exact v_var 0
                · refine tV_B ?_
                  · refine v_add ?_ ?_
                    · refine tV_B ?_
                      · refine v_add ?_ ?_
                        · refine tV_B ?_
                          · refine v_add ?_ ?_
                            · refine tV_B ?_
                              · refine v_add ?_ ?_
                                · refine tV_B ?_
                                  · exact v_str
                                · refine tV_B ?_
                                  · refine v_callT1 call_str_int cp_strI T.b_str ?_
                                    · refine v_prop ?_ T.cR T.p_top (ok_Ratio_top T) (hr.mono (by decide)) (bk_Ratio_top T)
                                      · exact v_var 0
                            · refine tV_B ?_
                              · exact v_str
                        · refine tV_B ?_
                          · refine v_callT1 call_str_int cp_strI T.b_str ?_
                            · refine v_prop ?_ T.cR T.p_bottom (ok_Ratio_bottom T) (hr.mono (by decide)) (bk_Ratio_bottom T)
                              · exact v_var 0
                    · refine tV_B ?_
                      · exact v_str
        · refine s_cons ?_ ?_
          · refine s_ret ?_
            · exact v_bl
          · exact s_nil
        · exact s_nil
      · refine s_cons ?_ ?_
        · refine s_set 4 sc.nd ?_
          · refine v_sub ?_ ?_
            · refine tV_B ?_
              · refine v_callTy call_int1 cv_int T.b_int ?_
                · refine ab_cons ?_ ?_
                  · refine tV_B ?_
                    · refine v_cmp op_gt ov_gt ?_ ?_
                      · refine tV_B ?_
                        · refine v_prop ?_ T.cR T.p_top (ok_Ratio_top T) (hr.mono (by decide)) (bk_Ratio_top T)
                          · exact v_var 0
                      · refine tV_B ?_
                        · exact v_int
                  · exact ab_nil
            · refine tV_B ?_
              · refine v_callTy call_int1 cv_int T.b_int ?_
                · refine ab_cons ?_ ?_
                  · refine tV_B ?_
                    · refine v_cmp op_lt ov_lt ?_ ?_
                      · refine tV_B ?_
                        · refine v_prop ?_ T.cR T.p_top (ok_Ratio_top T) (hr.mono (by decide)) (bk_Ratio_top T)
                          · exact v_var 0
                      · refine tV_B ?_
                        · exact v_int
                  · exact ab_nil
        · refine s_cons ?_ ?_
          · refine s_ret ?_
            · refine v_and ?_ ?_
              · refine v_cmp op_eq ov_seq ?_ ?_
                · refine tV_B ?_
                  · refine v_call1 (call_reprL (k := 0) (hr.mono (by decide))) cp_reprL T.b_repr ?_
                    · refine v_lst ?_
                      · refine a_cons ?_ ?_
                        · refine v_prop ?_ T.cR T.p_sign (ok_Ratio_sign T) (hr.mono (by decide)) (bk_Ratio_sign T)
                          · exact v_var 0
                        · refine a_cons ?_ ?_
                          · refine v_prop ?_ T.cR T.p_is_whole (ok_Ratio_is_whole T) (hr.mono (by decide)) (bk_Ratio_is_whole T)
                            · exact v_var 0
                          · exact a_nil
                · refine tV_B ?_
                  · refine v_call1 (call_reprL (k := 0) (hr.mono (by decide))) cp_reprL T.b_repr ?_
                    · refine v_lst ?_
                      · refine a_cons ?_ ?_
                        · exact v_var 4
                        · refine a_cons ?_ ?_
                          · refine v_cmp op_eq ov_seq ?_ ?_
                            · refine tV_B ?_
                              · refine v_prop ?_ T.cR T.p_bottom (ok_Ratio_bottom T) (hr.mono (by decide)) (bk_Ratio_bottom T)
                                · exact v_var 0
                            · refine tV_B ?_
                              · exact v_int
                          · exact a_nil
              · refine v_one ?_
                · refine v_cmpP (op_eqD (k := 0) (oe_R T) (hr.mono (by decide))) op_gEqD ?_ ?_
                  · refine v_meth ?_ T.cR T.t_size (ok_Ratio_size T) (hr.mono (by decide)) (bk_Ratio_size_0 T) .nil cst0 ?_
                    · exact v_var 0
                    · exact w_0
                  · refine v_mkE T.kR (ok_Ratio___init__ T) (hr.mono (by decide)) T.mR (bk_Ratio___init___2 T) (cst1 1) ?_
                    · refine w_p ?_
                      · refine an_cons ?_ ?_
                        · refine v_callB call_abs cv_I1 T.b_abs ?_
                          · refine ab_cons ?_ ?_
                            · refine tV_B ?_
                              · refine v_prop ?_ T.cR T.p_top (ok_Ratio_top T) (hr.mono (by decide)) (bk_Ratio_top T)
                                · exact v_var 0
                            · exact ab_nil
                        · refine an_cons ?_ ?_
                          · refine v_prop ?_ T.cR T.p_bottom (ok_Ratio_bottom T) (hr.mono (by decide)) (bk_Ratio_bottom T)
                            · exact v_var 0
                          · exact an_nil
          · exact s_nil
theorem ok__law_two_right {P : Program} {w : World} {K : PySem.W.Frag} {mg : Str → Option Value} {base : Heap} (T : Tx K mg) : FnG true P w K mg base 6 T.f__law_two_right T.d__law_two_right ["_law_one", "_law_other"] (spF K 2 (c__law_two_right T.CR)) := def_ofE (b := b__law_two_right T.CR) rfl rfl rfl T.F__law_two_right sc__law_two_right fun cdv A outer s H hr P0 F0 H0 => by
  have sc := sc__law_two_right
  refine s_cons ?_ ?_
  · refine s_par 2 3 rfl sc.nd ?_
    · refine a_cons ?_ ?_
      · refine v_mkE T.kR (ok_Ratio___init__ T) (hr.mono (by decide)) T.mR (bk_Ratio___init___2 T) (cst1 1) ?_
        · refine w_p ?_
          · refine an_cons ?_ ?_
            · refine v_ix ?_ ?_
              · exact v_varB 0
              · refine tV_B ?_
                · exact v_int
            · refine an_cons ?_ ?_
              · refine v_ix ?_ ?_
                · exact v_varB 0
                · refine tV_B ?_
                  · exact v_int
              · exact an_nil
      · refine a_cons ?_ ?_
        · refine v_mkE T.kR (ok_Ratio___init__ T) (hr.mono (by decide)) T.mR (bk_Ratio___init___0_top_bottom T) (cst1 1) ?_
          · refine w_k ?_ rfl
            · refine kn_cons ?_ ?_
              · refine v_ix ?_ ?_
                · exact v_varB 1
                · refine tV_B ?_
                  · exact v_int
              · refine kn_cons ?_ ?_
                · refine v_ix ?_ ?_
                  · exact v_varB 1
                  · refine tV_B ?_
                    · exact v_int
                · exact kn_nil
        · exact a_nil
  · refine s_cons ?_ ?_
    · refine s_asg ?_ ?_
      · refine v_tup ?_
        · refine a_cons ?_ ?_
          · exact v_var 0
          · refine a_cons ?_ ?_
            · exact v_var 1
            · exact a_nil
      · refine g_tup rfl ?_
        · refine g_cons ?_ ?_
          · refine g_tup rfl ?_
            · refine g_cons ?_ ?_
              · exact g_name 4 sc.nd
              · refine g_cons ?_ ?_
                · exact g_name 5 sc.nd
                · exact g_nil
          · refine g_cons ?_ ?_
            · refine g_tup rfl ?_
              · refine g_cons ?_ ?_
                · exact g_name 6 sc.nd
                · refine g_cons ?_ ?_
                  · exact g_name 7 sc.nd
                  · exact g_nil
            · exact g_nil
    · refine s_cons ?_ ?_
      · refine s_if ?_ ?_ ?_
        · refine PW.pt ?_
          · refine w_or ?_ ?_
            · refine v_notT ?_
              · refine v_test ?_
                · refine v_fn (ok__law_is T) (hr.mono (by decide)) T.m__law_is T.F__law_is.kp (bk__law_is_3 T) .nil cst0 ?_
                  · refine w_p ?_
                    · refine an_cons ?_ ?_
                      · exact v_var 2
                      · refine an_cons ?_ ?_
                        · exact v_var 4
                        · refine an_cons ?_ ?_
                          · exact v_var 5
                          · exact an_nil
            · refine w_or ?_ ?_
              · refine v_notT ?_
                · refine v_test ?_
                  · refine v_fn (ok__law_is T) (hr.mono (by decide)) T.m__law_is T.F__law_is.kp (bk__law_is_3 T) .nil cst0 ?_
                    · refine w_p ?_
                      · refine an_cons ?_ ?_
                        · refine v_binP (op_own T.o_Add int_add (ok_Ratio___add__ T) (ok_Ratio___radd__ T) (hr.mono (by decide)) (bk_Ratio___add__ T) (bk_Ratio___radd__ T) (pu_Ratio___add__ T.CR) (pu_Ratio___radd__ T.CR)) op_gOwn ?_ ?_
                          · exact v_var 2
                          · exact v_var 3
                        · refine an_cons ?_ ?_
                          · refine v_add ?_ ?_
                            · refine tV_B ?_
                              · refine v_mul ?_ ?_
                                · exact v_varB 4
                                · exact v_varB 7
                            · refine tV_B ?_
                              · refine v_mul ?_ ?_
                                · exact v_varB 6
                                · exact v_varB 5
                          · refine an_cons ?_ ?_
                            · refine v_mul ?_ ?_
                              · exact v_varB 5
                              · exact v_varB 7
                            · exact an_nil
              · refine w_or1 ?_
                · refine v_notT ?_
                  · refine v_test ?_
                    · refine v_fn (ok__law_is T) (hr.mono (by decide)) T.m__law_is T.F__law_is.kp (bk__law_is_3 T) .nil cst0 ?_
                      · refine w_p ?_
                        · refine an_cons ?_ ?_
                          · refine v_binP (op_own T.o_Sub int_sub (ok_Ratio___sub__ T) (ok_Ratio___rsub__ T) (hr.mono (by decide)) (bk_Ratio___sub__ T) (bk_Ratio___rsub__ T) (pu_Ratio___sub__ T.CR) (pu_Ratio___rsub__ T.CR)) op_gOwn ?_ ?_
                            · exact v_var 2
                            · exact v_var 3
                          · refine an_cons ?_ ?_
                            · refine v_sub ?_ ?_
                              · refine tV_B ?_
                                · refine v_mul ?_ ?_
                                  · exact v_varB 4
                                  · exact v_varB 7
                              · refine tV_B ?_
                                · refine v_mul ?_ ?_
                                  · exact v_varB 6
                                  · exact v_varB 5
                            · refine an_cons ?_ ?_
                              · refine v_mul ?_ ?_
                                · exact v_varB 5
                                · exact v_varB 7
                              · exact an_nil
        · refine s_cons ?_ ?_
          · refine s_ret ?_
            · exact v_bl
          · exact s_nil
        · exact s_nil
      · refine s_cons ?_ ?_
        · refine s_if ?_ ?_ ?_
          · refine PW.pt ?_
            · refine w_or ?_ ?_
              · refine v_notT ?_
                · refine v_test ?_
                  · refine v_fn (ok__law_is T) (hr.mono (by decide)) T.m__law_is T.F__law_is.kp (bk__law_is_3 T) .nil cst0 ?_
                    · refine w_p ?_
                      · refine an_cons ?_ ?_
                        · refine v_binP (op_own T.o_Mult int_mul (ok_Ratio___mul__ T) (ok_Ratio___rmul__ T) (hr.mono (by decide)) (bk_Ratio___mul__ T) (bk_Ratio___rmul__ T) (pu_Ratio___mul__ T.CR) (pu_Ratio___rmul__ T.CR)) op_gOwn ?_ ?_
                          · exact v_var 2
                          · exact v_var 3
                        · refine an_cons ?_ ?_
                          · refine v_mul ?_ ?_
                            · exact v_varB 4
                            · exact v_varB 6
                          · refine an_cons ?_ ?_
                            · refine v_mul ?_ ?_
                              · exact v_varB 5
                              · exact v_varB 7
                            · exact an_nil
              · refine w_or1 ?_
                · refine v_notT ?_
                  · refine v_test ?_
                    · refine v_fn (ok__law_is T) (hr.mono (by decide)) T.m__law_is T.F__law_is.kp (bk__law_is_3 T) .nil cst0 ?_
                      · refine w_p ?_
                        · refine an_cons ?_ ?_
                          · refine v_negO T.g_neg T.gf_neg (ok_Ratio___neg__ T) (hr.mono (by decide)) (bk_Ratio___neg__ T) (pu_Ratio___neg__ T.CR) ?_
                            · exact v_var 2
                          · refine an_cons ?_ ?_
                            · refine v_sub ?_ ?_
                              · refine tV_B ?_
                                · exact v_int
                              · exact v_varB 4
                            · refine an_cons ?_ ?_
                              · exact v_var 5
                              · exact an_nil
          · refine s_cons ?_ ?_
            · refine s_ret ?_
              · exact v_bl
            · exact s_nil
          · exact s_nil
        · refine s_cons ?_ ?_
          · refine s_if ?_ ?_ ?_
            · refine PW.pt ?_
              · refine w_and ?_ ?_
                · refine v_cmpT op_ne ov_sne ?_ ?_
                  · exact v_varB 6
                  · refine tV_B ?_
                    · exact v_int
                · refine w_and1 ?_
                  · refine v_notT ?_
                    · refine v_test ?_
                      · refine v_fn (ok__law_is T) (hr.mono (by decide)) T.m__law_is T.F__law_is.kp (bk__law_is_3 T) .nil cst0 ?_
                        · refine w_p ?_
                          · refine an_cons ?_ ?_
                            · refine v_meth ?_ T.cR T.t_over (ok_Ratio_over T) (hr.mono (by decide)) (bk_Ratio_over_0_other T) .nil cst0 ?_
                              · exact v_var 2
                              · refine w_k ?_ rfl
                                · refine kn_cons ?_ ?_
                                  · exact v_var 3
                                  · exact kn_nil
                            · refine an_cons ?_ ?_
                              · refine v_mul ?_ ?_
                                · exact v_varB 4
                                · exact v_varB 7
                              · refine an_cons ?_ ?_
                                · refine v_mul ?_ ?_
                                  · exact v_varB 5
                                  · exact v_varB 6
                                · exact an_nil
            · refine s_cons ?_ ?_
              · refine s_ret ?_
                · exact v_bl
              · exact s_nil
            · exact s_nil
          · refine s_cons ?_ ?_
            · refine s_set 8 sc.nd ?_
              · refine v_mul ?_ ?_
                · refine tV_B ?_
                  · refine v_mul ?_ ?_
                    · refine tV_B ?_
                      · refine v_sub ?_ ?_
                        · refine tV_B ?_
                          · refine v_mul ?_ ?_
                            · exact v_varB 4
                            · exact v_varB 7
                        · refine tV_B ?_
                          · refine v_mul ?_ ?_
                            · exact v_varB 6
                            · exact v_varB 5
                    · exact v_varB 5
                · exact v_varB 7
            · refine s_cons ?_ ?_
              · refine s_set 9 sc.nd ?_
                · refine v_lst ?_
                  · refine a_cons ?_ ?_
                    · refine v_meth ?_ T.cR T.t_is_below (ok_Ratio_is_below T) (hr.mono (by decide)) (bk_Ratio_is_below_1 T) .nil cst0 ?_
                      · exact v_var 2
                      · refine w_p ?_
                        · refine an_cons ?_ ?_
                          · exact v_var 3
                          · exact an_nil
                    · refine a_cons ?_ ?_
                      · refine v_meth ?_ T.cR T.t_is_at_most (ok_Ratio_is_at_most T) (hr.mono (by decide)) (bk_Ratio_is_at_most_1 T) .nil cst0 ?_
                        · exact v_var 2
                        · refine w_p ?_
                          · refine an_cons ?_ ?_
                            · exact v_var 3
                            · exact an_nil
                      · refine a_cons ?_ ?_
                        · refine v_meth ?_ T.cR T.t_is_below (ok_Ratio_is_below T) (hr.mono (by decide)) (bk_Ratio_is_below_0_other T) .nil cst0 ?_
                          · exact v_var 3
                          · refine w_k ?_ rfl
                            · refine kn_cons ?_ ?_
                              · exact v_var 2
                              · exact kn_nil
                        · refine a_cons ?_ ?_
                          · refine v_cmpP (op_eqD (k := 0) (oe_R T) (hr.mono (by decide))) op_gEqD ?_ ?_
                            · exact v_var 2
                            · exact v_var 3
                          · refine a_cons ?_ ?_
                            · refine v_cmpP (op_neD (k := 0) (oe_R T) (hr.mono (by decide))) op_gEqD ?_ ?_
                              · exact v_var 2
                              · exact v_var 3
                            · exact a_nil
              · refine s_cons ?_ ?_
                · refine s_ret ?_
                  · refine v_cmp op_eq ov_seq ?_ ?_
                    · refine tV_B ?_
                      · refine v_call1 (call_reprL (k := 0) (hr.mono (by decide))) cp_reprL T.b_repr ?_
                        · exact v_var 9
                    · refine tV_B ?_
                      · refine v_call1 (call_reprL (k := 0) (hr.mono (by decide))) cp_reprL T.b_repr ?_
                        · refine v_lst ?_
                          · refine a_cons ?_ ?_
                            · refine v_cmp op_lt ov_lt ?_ ?_
                              · exact v_varB 8
                              · refine tV_B ?_
                                · exact v_int
                            · refine a_cons ?_ ?_
                              · refine v_cmp op_le ov_le ?_ ?_
                                · exact v_varB 8
                                · refine tV_B ?_
                                  · exact v_int
                              · refine a_cons ?_ ?_
                                · refine v_cmp op_gt ov_gt ?_ ?_
                                  · exact v_varB 8
                                  · refine tV_B ?_
                                    · exact v_int
                                · refine a_cons ?_ ?_
                                  · refine v_cmp op_eq ov_seq ?_ ?_
                                    · exact v_varB 8
                                    · refine tV_B ?_
                                      · exact v_int
                                  · refine a_cons ?_ ?_
                                    · refine v_cmp op_ne ov_sne ?_ ?_
                                      · exact v_varB 8
                                      · refine tV_B ?_
                                        · exact v_int
                                    · exact a_nil
                · exact s_nil
theorem ok__law_whole_right {P : Program} {w : World} {K : PySem.W.Frag} {mg : Str → Option Value} {base : Heap} (T : Tx K mg) : FnG true P w K mg base 6 T.f__law_whole_right T.d__law_whole_right ["_law_one", "_law_whole_here"] (spF K 2 (c__law_whole_right T.CR)) := def_ofE (b := b__law_whole_right T.CR) rfl rfl rfl T.F__law_whole_right sc__law_whole_right fun cdv A outer s H hr P0 F0 H0 => by
  have sc := sc__law_whole_right
  refine s_cons ?_ ?_
  · refine s_asg ?_ ?_
    · refine v_tup ?_
      · refine a_cons ?_ ?_
        · refine v_mkE T.kR (ok_Ratio___init__ T) (hr.mono (by decide)) T.mR (bk_Ratio___init___2 T) (cst1 1) ?_
          · refine w_p ?_
            · refine an_cons ?_ ?_
              · refine v_ix ?_ ?_
                · exact v_varB 0
                · refine tV_B ?_
                  · exact v_int
              · refine an_cons ?_ ?_
                · refine v_ix ?_ ?_
                  · exact v_varB 0
                  · refine tV_B ?_
                    · exact v_int
                · exact an_nil
        · refine a_cons ?_ ?_
          · exact v_var 0
          · exact a_nil
    · refine g_tup rfl ?_
      · refine g_cons ?_ ?_
        · exact g_name 2 sc.nd
        · refine g_cons ?_ ?_
          · refine g_tup rfl ?_
            · refine g_cons ?_ ?_
              · exact g_name 3 sc.nd
              · refine g_cons ?_ ?_
                · exact g_name 4 sc.nd
                · exact g_nil
          · exact g_nil
  · refine s_cons ?_ ?_
    · refine s_if ?_ ?_ ?_
      · refine PW.pt ?_
        · refine w_or ?_ ?_
          · refine v_notT ?_
            · refine v_test ?_
              · refine v_fn (ok__law_is T) (hr.mono (by decide)) T.m__law_is T.F__law_is.kp (bk__law_is_3 T) .nil cst0 ?_
                · refine w_p ?_
                  · refine an_cons ?_ ?_
                    · refine v_binP (op_own T.o_Add int_add (ok_Ratio___add__ T) (ok_Ratio___radd__ T) (hr.mono (by decide)) (bk_Ratio___add__ T) (bk_Ratio___radd__ T) (pu_Ratio___add__ T.CR) (pu_Ratio___radd__ T.CR)) op_gOwn ?_ ?_
                      · exact v_var 2
                      · exact v_var 1
                    · refine an_cons ?_ ?_
                      · refine v_add ?_ ?_
                        · exact v_varB 3
                        · refine tV_B ?_
                          · refine v_mul ?_ ?_
                            · exact v_varB 1
                            · exact v_varB 4
                      · refine an_cons ?_ ?_
                        · exact v_var 4
                        · exact an_nil
          · refine w_or ?_ ?_
            · refine v_notT ?_
              · refine v_test ?_
                · refine v_fn (ok__law_is T) (hr.mono (by decide)) T.m__law_is T.F__law_is.kp (bk__law_is_3 T) .nil cst0 ?_
                  · refine w_p ?_
                    · refine an_cons ?_ ?_
                      · refine v_binP (op_own T.o_Add int_add (ok_Ratio___add__ T) (ok_Ratio___radd__ T) (hr.mono (by decide)) (bk_Ratio___add__ T) (bk_Ratio___radd__ T) (pu_Ratio___add__ T.CR) (pu_Ratio___radd__ T.CR)) op_gOwn ?_ ?_
                        · exact v_var 1
                        · exact v_var 2
                      · refine an_cons ?_ ?_
                        · refine v_add ?_ ?_
                          · exact v_varB 3
                          · refine tV_B ?_
                            · refine v_mul ?_ ?_
                              · exact v_varB 1
                              · exact v_varB 4
                        · refine an_cons ?_ ?_
                          · exact v_var 4
                          · exact an_nil
            · refine w_or1 ?_
              · refine v_notT ?_
                · refine v_test ?_
                  · refine v_fn (ok__law_is T) (hr.mono (by decide)) T.m__law_is T.F__law_is.kp (bk__law_is_3 T) .nil cst0 ?_
                    · refine w_p ?_
                      · refine an_cons ?_ ?_
                        · refine v_binP (op_own T.o_Sub int_sub (ok_Ratio___sub__ T) (ok_Ratio___rsub__ T) (hr.mono (by decide)) (bk_Ratio___sub__ T) (bk_Ratio___rsub__ T) (pu_Ratio___sub__ T.CR) (pu_Ratio___rsub__ T.CR)) op_gOwn ?_ ?_
                          · exact v_var 1
                          · exact v_var 2
                        · refine an_cons ?_ ?_
                          · refine v_sub ?_ ?_
                            · refine tV_B ?_
                              · refine v_mul ?_ ?_
                                · exact v_varB 1
                                · exact v_varB 4
                            · exact v_varB 3
                          · refine an_cons ?_ ?_
                            · exact v_var 4
                            · exact an_nil
      · refine s_cons ?_ ?_
        · refine s_ret ?_
          · exact v_bl
        · exact s_nil
      · exact s_nil
    · refine s_cons ?_ ?_
      · refine s_if ?_ ?_ ?_
        · refine PW.pt ?_
          · refine w_or ?_ ?_
            · refine v_notT ?_
              · refine v_test ?_
                · refine v_fn (ok__law_is T) (hr.mono (by decide)) T.m__law_is T.F__law_is.kp (bk__law_is_3 T) .nil cst0 ?_
                  · refine w_p ?_
                    · refine an_cons ?_ ?_
                      · refine v_binP (op_own T.o_Sub int_sub (ok_Ratio___sub__ T) (ok_Ratio___rsub__ T) (hr.mono (by decide)) (bk_Ratio___sub__ T) (bk_Ratio___rsub__ T) (pu_Ratio___sub__ T.CR) (pu_Ratio___rsub__ T.CR)) op_gOwn ?_ ?_
                        · exact v_var 2
                        · exact v_var 1
                      · refine an_cons ?_ ?_
                        · refine v_sub ?_ ?_
                          · exact v_varB 3
                          · refine tV_B ?_
                            · refine v_mul ?_ ?_
                              · exact v_varB 1
                              · exact v_varB 4
                        · refine an_cons ?_ ?_
                          · exact v_var 4
                          · exact an_nil
            · refine w_or ?_ ?_
              · refine v_notT ?_
                · refine v_test ?_
                  · refine v_fn (ok__law_is T) (hr.mono (by decide)) T.m__law_is T.F__law_is.kp (bk__law_is_3 T) .nil cst0 ?_
                    · refine w_p ?_
                      · refine an_cons ?_ ?_
                        · refine v_binP (op_own T.o_Mult int_mul (ok_Ratio___mul__ T) (ok_Ratio___rmul__ T) (hr.mono (by decide)) (bk_Ratio___mul__ T) (bk_Ratio___rmul__ T) (pu_Ratio___mul__ T.CR) (pu_Ratio___rmul__ T.CR)) op_gOwn ?_ ?_
                          · exact v_var 1
                          · exact v_var 2
                        · refine an_cons ?_ ?_
                          · refine v_mul ?_ ?_
                            · exact v_varB 1
                            · exact v_varB 3
                          · refine an_cons ?_ ?_
                            · exact v_var 4
                            · exact an_nil
              · refine w_or1 ?_
                · refine v_notT ?_
                  · refine v_test ?_
                    · refine v_fn (ok__law_is T) (hr.mono (by decide)) T.m__law_is T.F__law_is.kp (bk__law_is_3 T) .nil cst0 ?_
                      · refine w_p ?_
                        · refine an_cons ?_ ?_
                          · refine v_binP (op_own T.o_Mult int_mul (ok_Ratio___mul__ T) (ok_Ratio___rmul__ T) (hr.mono (by decide)) (bk_Ratio___mul__ T) (bk_Ratio___rmul__ T) (pu_Ratio___mul__ T.CR) (pu_Ratio___rmul__ T.CR)) op_gOwn ?_ ?_
                            · exact v_var 2
                            · exact v_var 1
                          · refine an_cons ?_ ?_
                            · refine v_mul ?_ ?_
                              · exact v_varB 1
                              · exact v_varB 3
                            · refine an_cons ?_ ?_
                              · exact v_var 4
                              · exact an_nil
        · refine s_cons ?_ ?_
          · refine s_ret ?_
            · exact v_bl
          · exact s_nil
        · exact s_nil
      · refine s_cons ?_ ?_
        · refine s_if ?_ ?_ ?_
          · refine PW.pt ?_
            · refine w_and ?_ ?_
              · refine v_cmpT op_ne ov_sne ?_ ?_
                · exact v_varB 1
                · refine tV_B ?_
                  · exact v_int
              · refine w_and1 ?_
                · refine v_notT ?_
                  · refine v_test ?_
                    · refine v_fn (ok__law_is T) (hr.mono (by decide)) T.m__law_is T.F__law_is.kp (bk__law_is_3 T) .nil cst0 ?_
                      · refine w_p ?_
                        · refine an_cons ?_ ?_
                          · refine v_meth ?_ T.cR T.t_over (ok_Ratio_over T) (hr.mono (by decide)) (bk_Ratio_over_1 T) .nil cst0 ?_
                            · exact v_var 2
                            · refine w_p ?_
                              · refine an_cons ?_ ?_
                                · exact v_var 1
                                · exact an_nil
                          · refine an_cons ?_ ?_
                            · exact v_var 3
                            · refine an_cons ?_ ?_
                              · refine v_mul ?_ ?_
                                · exact v_varB 4
                                · exact v_varB 1
                              · exact an_nil
          · refine s_cons ?_ ?_
            · refine s_ret ?_
              · exact v_bl
            · exact s_nil
          · exact s_nil
        · refine s_cons ?_ ?_
          · refine s_if ?_ ?_ ?_
            · refine PW.pt ?_
              · refine w_or ?_ ?_
                · refine v_notT ?_
                  · refine v_test ?_
                    · refine v_fn (ok__law_is T) (hr.mono (by decide)) T.m__law_is T.F__law_is.kp (bk__law_is_3 T) .nil cst0 ?_
                      · refine w_p ?_
                        · refine an_cons ?_ ?_
                          · refine v_mkE T.kR (ok_Ratio___init__ T) (hr.mono (by decide)) T.mR (bk_Ratio___init___1 T) (cst1 1) ?_
                            · refine w_p ?_
                              · refine an_cons ?_ ?_
                                · exact v_var 1
                                · exact an_nil
                          · refine an_cons ?_ ?_
                            · exact v_var 1
                            · refine an_cons ?_ ?_
                              · exact v_int
                              · exact an_nil
                · refine w_or1 ?_
                  · refine v_cmpT op_notBl ov_notB ?_ ?_
                    · refine tV_B ?_
                      · refine v_cmpP (op_eqD (k := 0) (oe_R T) (hr.mono (by decide))) op_gEqD ?_ ?_
                        · exact v_var 2
                        · exact v_var 1
                    · refine tV_B ?_
                      · exact v_bl
            · refine s_cons ?_ ?_
              · refine s_ret ?_
                · exact v_bl
              · exact s_nil
            · exact s_nil
          · refine s_cons ?_ ?_
            · refine s_set 5 sc.nd ?_
              · refine v_mul ?_ ?_
                · refine tV_B ?_
                  · refine v_sub ?_ ?_
                    · exact v_varB 3
                    · refine tV_B ?_
                      · refine v_mul ?_ ?_
                        · exact v_varB 1
                        · exact v_varB 4
                · exact v_varB 4
            · refine s_cons ?_ ?_
              · refine s_ret ?_
                · refine v_cmp op_eq ov_seq ?_ ?_
                  · refine tV_B ?_
                    · refine v_call1 (call_reprL (k := 0) (hr.mono (by decide))) cp_reprL T.b_repr ?_
                      · refine v_lst ?_
                        · refine a_cons ?_ ?_
                          · refine v_meth ?_ T.cR T.t_is_below (ok_Ratio_is_below T) (hr.mono (by decide)) (bk_Ratio_is_below_1 T) .nil cst0 ?_
                            · exact v_var 2
                            · refine w_p ?_
                              · refine an_cons ?_ ?_
                                · exact v_var 1
                                · exact an_nil
                          · refine a_cons ?_ ?_
                            · refine v_meth ?_ T.cR T.t_is_at_most (ok_Ratio_is_at_most T) (hr.mono (by decide)) (bk_Ratio_is_at_most_1 T) .nil cst0 ?_
                              · exact v_var 2
                              · refine w_p ?_
                                · refine an_cons ?_ ?_
                                  · exact v_var 1
                                  · exact an_nil
                            · exact a_nil
                  · refine tV_B ?_
                    · refine v_call1 (call_reprL (k := 0) (hr.mono (by decide))) cp_reprL T.b_repr ?_
                      · refine v_lst ?_
                        · refine a_cons ?_ ?_
                          · refine v_cmp op_lt ov_lt ?_ ?_
                            · exact v_varB 5
                            · refine tV_B ?_
                              · exact v_int
                          · refine a_cons ?_ ?_
                            · refine v_cmp op_le ov_le ?_ ?_
                              · exact v_varB 5
                              · refine tV_B ?_
                                · exact v_int
                            · exact a_nil
              · exact s_nil
theorem ok__law_total_right {P : Program} {w : World} {K : PySem.W.Frag} {mg : Str → Option Value} {base : Heap} (T : Tx K mg) : FnG true P w K mg base 7 T.f__law_total_right T.d__law_total_right ["_law_pot_here", "_law_pairs"] (spF K 2 (c__law_total_right T.CR)) := def_ofE (b := b__law_total_right T.CR) rfl rfl rfl T.F__law_total_right sc__law_total_right fun cdv A outer s H hr P0 F0 H0 => by
  have sc := sc__law_total_right
  refine s_cons ?_ ?_
  · refine s_par3o 2 3 4 rfl sc.nd ?_ ?_ ?_
    · exact v_int
    · exact v_int
    · refine n_lst ?_
      · exact a_nil
  · refine s_cons ?_ ?_
    · refine s_for PassesOwn.never rfl ?_ ?_ ?_
      · refine i_rng1 T.b_range ?_
        · refine a_cons ?_ ?_
          · refine v_fn (ok__law_draw T) (hr.mono (by decide)) T.m__law_draw T.F__law_draw.kp (bk__law_draw_2 T) .nil cst0 ?_
            · refine w_p ?_
              · refine an_cons ?_ ?_
                · exact v_var 0
                · refine an_cons ?_ ?_
                  · exact v_int
                  · exact an_nil
          · exact a_nil
      · exact g_name 5 sc.nd
      · refine s_cons ?_ ?_
        · refine s_if ?_ ?_ ?_
          · refine v_cmpT op_eq ov_seq ?_ ?_
            · refine tV_B ?_
              · refine v_fn (ok__law_draw T) (hr.mono (by decide)) T.m__law_draw T.F__law_draw.kp (bk__law_draw_2 T) .nil cst0 ?_
                · refine w_p ?_
                  · refine an_cons ?_ ?_
                    · exact v_var 0
                    · refine an_cons ?_ ?_
                      · exact v_int
                      · exact an_nil
            · refine tV_B ?_
              · exact v_int
          · refine s_cons ?_ ?_
            · refine s_set 6 sc.nd ?_
              · refine v_fn (ok__law_whole T) (hr.mono (by decide)) T.m__law_whole T.F__law_whole.kp (bk__law_whole_1 T) .nil cst0 ?_
                · refine w_p ?_
                  · refine an_cons ?_ ?_
                    · exact v_var 0
                    · exact an_nil
            · refine s_cons ?_ ?_
              · refine s_app 4 ?_ (hm := pe_bm PySem.F.plainAttrs_list PySem.F.slot_list_append PySem.F.type_list_append mt_append (pe_var (i := 4) rfl (by first | exact Or.inl rfl | exact Or.inr (Or.inl rfl))) (pa_cons (v_var 6) pa_nil))
                · exact v_var 6
              · refine s_cons ?_ ?_
                · refine s_set 2 sc.nd ?_
                  · refine v_add ?_ ?_
                    · exact v_varB 2
                    · refine tV_B ?_
                      · refine v_mul ?_ ?_
                        · exact v_varB 6
                        · exact v_varB 3
                · exact s_nil
          · refine s_cons ?_ ?_
            · refine s_set 7 sc.nd ?_
              · refine v_fn (ok__law_pick T) (hr.mono (by decide)) T.m__law_pick T.F__law_pick.kp (bk__law_pick_2 T) .nil cst0 ?_
                · refine w_p ?_
                  · refine an_cons ?_ ?_
                    · exact v_var 0
                    · refine an_cons ?_ ?_
                      · exact v_var 1
                      · exact an_nil
            · refine s_cons ?_ ?_
              · refine s_app 4 ?_ (hm := pe_bm PySem.F.plainAttrs_list PySem.F.slot_list_append PySem.F.type_list_append mt_append (pe_var (i := 4) rfl (by first | exact Or.inl rfl | exact Or.inr (Or.inl rfl))) (pa_cons (v_mkE T.kR (ok_Ratio___init__ T) (hr.mono (by decide)) T.mR (bk_Ratio___init___2 T) (cst1 1) (w_p (an_cons (v_ix (v_varB 7) (tV_B v_int)) (an_cons (v_ix (v_varB 7) (tV_B v_int)) an_nil)))) pa_nil))
                · refine v_mkE T.kR (ok_Ratio___init__ T) (hr.mono (by decide)) T.mR (bk_Ratio___init___2 T) (cst1 1) ?_
                  · refine w_p ?_
                    · refine an_cons ?_ ?_
                      · refine v_ix ?_ ?_
                        · exact v_varB 7
                        · refine tV_B ?_
                          · exact v_int
                      · refine an_cons ?_ ?_
                        · refine v_ix ?_ ?_
                          · exact v_varB 7
                          · refine tV_B ?_
                            · exact v_int
                        · exact an_nil
              · refine s_cons ?_ ?_
                · refine s_par 2 3 rfl sc.nd ?_
                  · refine a_cons ?_ ?_
                    · refine v_add ?_ ?_
                      · refine tV_B ?_
                        · refine v_mul ?_ ?_
                          · exact v_varB 2
                          · refine tV_B ?_
                            · refine v_ix ?_ ?_
                              · exact v_varB 7
                              · refine tV_B ?_
                                · exact v_int
                      · refine tV_B ?_
                        · refine v_mul ?_ ?_
                          · refine tV_B ?_
                            · refine v_ix ?_ ?_
                              · exact v_varB 7
                              · refine tV_B ?_
                                · exact v_int
                          · exact v_varB 3
                    · refine a_cons ?_ ?_
                      · refine v_mul ?_ ?_
                        · exact v_varB 3
                        · refine tV_B ?_
                          · refine v_ix ?_ ?_
                            · exact v_varB 7
                            · refine tV_B ?_
                              · exact v_int
                      · exact a_nil
                · exact s_nil
        · exact s_nil
    · refine s_cons ?_ ?_
      · refine s_ret ?_
        · refine v_and ?_ ?_
          · refine v_fn (ok__law_is T) (hr.mono (by decide)) T.m__law_is T.F__law_is.kp (bk__law_is_3 T) .nil cst0 ?_
            · refine w_p ?_
              · refine an_cons ?_ ?_
                · refine v_cmeth T.mR rfl T.rdR T.cm_total (ok_Ratio_total T) (hr.mono (by decide)) (bk_Ratio_total_1 T) .nil cst0 ?_
                  · refine wc_p ?_
                    · refine an_cons ?_ ?_
                      · exact v_var 4
                      · exact an_nil
                · refine an_cons ?_ ?_
                  · exact v_var 2
                  · refine an_cons ?_ ?_
                    · exact v_var 3
                    · exact an_nil
          · refine v_one ?_
            · refine v_fn (ok__law_is T) (hr.mono (by decide)) T.m__law_is T.F__law_is.kp (bk__law_is_3 T) .nil cst0 ?_
              · refine w_p ?_
                · refine an_cons ?_ ?_
                  · refine v_cmeth T.mR rfl T.rdR T.cm_total (ok_Ratio_total_tup T) (hr.mono (by decide)) (bk_Ratio_total_0_numbers T) .nil cst0 ?_
                    · refine wc_k ?_ rfl
                      · refine kn_cons ?_ ?_
                        · refine v_callTy call_tuple_of cv_tuple T.b_tuple ?_
                          · refine ab_cons ?_ ?_
                            · exact v_varB 4
                            · exact ab_nil
                        · exact kn_nil
                  · refine an_cons ?_ ?_
                    · exact v_var 2
                    · refine an_cons ?_ ?_
                      · exact v_var 3
                      · exact an_nil
      · exact s_nil
theorem ok_law {P : Program} {w : World} {K : PySem.W.Frag} {mg : Str → Option Value} {base : Heap} (T : Tx K mg) (math : Math T.CR) : FnG true P w K mg base 8 T.f_law T.d_law ["_law_script"] (spLaw K 63) := law_of (i := 1) (fe := e_law T.CR) (b := b_law T.CR) T.F_law sc_law (fun cdv A outer s H hr => by
  have sc := sc_law
  refine s_pot 1 sc.nd (fun _ _ => ?_) (fun P0 F0 H0 => ?_)
  · refine n_fn (ok__law_pot T) (hr.mono (by decide)) T.m__law_pot T.F__law_pot.kp (bk__law_pot_2 T) .nil cst0 ?_
    · refine w_p ?_
      · refine an_cons ?_ ?_
        · exact v_var 0
        · refine an_cons ?_ ?_
          · exact v_int
          · exact an_nil
  · refine s_cons ?_ ?_
    · refine s_own 2 sc.nd ?_
      · refine n_lst ?_
        · refine a_cons ?_ ?_
          · refine v_fn (ok__law_pair T) (hr.mono (by decide)) T.m__law_pair T.F__law_pair.kp (bk__law_pair_1 T) .nil cst0 ?_
            · refine w_p ?_
              · refine an_cons ?_ ?_
                · exact v_var 1
                · exact an_nil
          · refine a_cons ?_ ?_
            · refine v_fn (ok__law_pair T) (hr.mono (by decide)) T.m__law_pair T.F__law_pair.kp (bk__law_pair_1 T) .nil cst0 ?_
              · refine w_p ?_
                · refine an_cons ?_ ?_
                  · exact v_var 1
                  · exact an_nil
            · refine a_cons ?_ ?_
              · refine v_tup ?_
                · refine a_cons ?_ ?_
                  · exact v_int
                  · refine a_cons ?_ ?_
                    · exact v_int
                    · exact a_nil
              · exact a_nil
    · refine s_cons ?_ ?_
      · refine s_app 2 ?_ (hm := pe_bm PySem.F.plainAttrs_list PySem.F.slot_list_append PySem.F.type_list_append mt_append (pe_var (i := 2) rfl (by first | exact Or.inl rfl | exact Or.inr (Or.inl rfl))) (pa_cons (v_tup (a_cons (v_mul (tV_B (v_ix (tV_B (v_ix (v_varB 2) (tV_B v_int))) (tV_B v_int))) (tV_B v_int)) (a_cons (v_mul (tV_B (v_ix (tV_B (v_ix (v_varB 2) (tV_B v_int))) (tV_B v_int))) (tV_B v_int)) a_nil))) pa_nil))
        · refine v_tup ?_
          · refine a_cons ?_ ?_
            · refine v_mul ?_ ?_
              · refine tV_B ?_
                · refine v_ix ?_ ?_
                  · refine tV_B ?_
                    · refine v_ix ?_ ?_
                      · exact v_varB 2
                      · refine tV_B ?_
                        · exact v_int
                  · refine tV_B ?_
                    · exact v_int
              · refine tV_B ?_
                · exact v_int
            · refine a_cons ?_ ?_
              · refine v_mul ?_ ?_
                · refine tV_B ?_
                  · refine v_ix ?_ ?_
                    · refine tV_B ?_
                      · refine v_ix ?_ ?_
                        · exact v_varB 2
                        · refine tV_B ?_
                          · exact v_int
                    · refine tV_B ?_
                      · exact v_int
                · refine tV_B ?_
                  · exact v_int
              · exact a_nil
      · refine s_cons ?_ ?_
        · refine s_app 2 ?_ (hm := pe_bm PySem.F.plainAttrs_list PySem.F.slot_list_append PySem.F.type_list_append mt_append (pe_var (i := 2) rfl (by first | exact Or.inl rfl | exact Or.inr (Or.inl rfl))) (pa_cons (v_tup (a_cons (v_sub (tV_B v_int) (tV_B (v_ix (tV_B (v_ix (v_varB 2) (tV_B v_int))) (tV_B v_int)))) (a_cons (v_sub (tV_B v_int) (tV_B (v_ix (tV_B (v_ix (v_varB 2) (tV_B v_int))) (tV_B v_int)))) a_nil))) pa_nil))
          · refine v_tup ?_
            · refine a_cons ?_ ?_
              · refine v_sub ?_ ?_
                · refine tV_B ?_
                  · exact v_int
                · refine tV_B ?_
                  · refine v_ix ?_ ?_
                    · refine tV_B ?_
                      · refine v_ix ?_ ?_
                        · exact v_varB 2
                        · refine tV_B ?_
                          · exact v_int
                    · refine tV_B ?_
                      · exact v_int
              · refine a_cons ?_ ?_
                · refine v_sub ?_ ?_
                  · refine tV_B ?_
                    · exact v_int
                  · refine tV_B ?_
                    · refine v_ix ?_ ?_
                      · refine tV_B ?_
                        · refine v_ix ?_ ?_
                          · exact v_varB 2
                          · refine tV_B ?_
                            · exact v_int
                      · refine tV_B ?_
                        · exact v_int
                · exact a_nil
        · refine s_cons ?_ ?_
          · refine s_set 3 sc.nd ?_
            · refine v_fn (ok__law_whole T) (hr.mono (by decide)) T.m__law_whole T.F__law_whole.kp (bk__law_whole_1 T) .nil cst0 ?_
              · refine w_p ?_
                · refine an_cons ?_ ?_
                  · exact v_var 1
                  · exact an_nil
          · refine s_cons ?_ ?_
            · refine s_for PassesOwn.never rfl ?_ ?_ ?_
              · refine i_list ?_
                · refine v_cut ?_ ?_ ?_
                  · exact v_varB 2
                  · exact o_none
                  · refine o_some ?_
                    · exact v_int
              · exact g_name 4 sc.nd
              · refine s_cons ?_ ?_
                · refine s_if ?_ ?_ ?_
                  · refine PW.pt ?_
                    · refine w_or ?_ ?_
                      · refine v_notT ?_
                        · refine v_test ?_
                          · refine v_callB (cr_all rfl) cv_all T.b_all ?_
                            · refine ab_cons ?_ ?_
                              · refine tV_B ?_
                                · refine v_N ?_
                                  · refine n_comp (own := [("_law_other", 5)]) rfl sc.nd ?_ (blkOk_by (by show blkC ["_law_script", "_law_pot_here", "_law_pairs", "_law_whole_here", "_law_one", "_law_other"] (defScope st_law) _ _ = true; decide +kernel)) (by decide) (fun _ _ _ _ _ => ?_) (fun _ _ _ _ _ => ?_) (fun _ _ _ _ _ => ?_)
                                    · refine i_list ?_
                                      · exact v_var 2
                                    · exact gv_name 5 sc.nd
                                    · exact c_none
                                    · refine v_fn (ok__law_two_right T) (hr.mono (by decide)) T.m__law_two_right T.F__law_two_right.kp (bk__law_two_right_2 T) .nil cst0 ?_
                                      · refine w_p ?_
                                        · refine an_cons ?_ ?_
                                          · exact v_var 4
                                          · refine an_cons ?_ ?_
                                            · exact v_var 5
                                            · exact an_nil
                              · exact ab_nil
                      · refine w_or1 ?_
                        · refine v_notT ?_
                          · refine v_test ?_
                            · refine v_fn (ok__law_whole_right T) (hr.mono (by decide)) T.m__law_whole_right T.F__law_whole_right.kp (bk__law_whole_right_2 T) .nil cst0 ?_
                              · refine w_p ?_
                                · refine an_cons ?_ ?_
                                  · exact v_var 4
                                  · refine an_cons ?_ ?_
                                    · exact v_var 3
                                    · exact an_nil
                  · refine s_cons ?_ ?_
                    · refine s_ret ?_
                      · exact v_bl
                    · exact s_nil
                  · exact s_nil
                · exact s_nil
            · refine s_cons ?_ ?_
              · refine s_ret ?_
                · refine v_and ?_ ?_
                  · refine v_fn (ok__law_whole_right T) (hr.mono (by decide)) T.m__law_whole_right T.F__law_whole_right.kp (bk__law_whole_right_2 T) .nil cst0 ?_
                    · refine w_p ?_
                      · refine an_cons ?_ ?_
                        · refine v_ix ?_ ?_
                          · exact v_varB 2
                          · refine tV_B ?_
                            · exact v_int
                        · refine an_cons ?_ ?_
                          · exact v_var 3
                          · exact an_nil
                  · refine v_and ?_ ?_
                    · refine v_fn (ok__law_whole_right T) (hr.mono (by decide)) T.m__law_whole_right T.F__law_whole_right.kp (bk__law_whole_right_2 T) .nil cst0 ?_
                      · refine w_p ?_
                        · refine an_cons ?_ ?_
                          · refine v_ix ?_ ?_
                            · exact v_varB 2
                            · refine tV_B ?_
                              · exact v_int
                          · refine an_cons ?_ ?_
                            · exact v_int
                            · exact an_nil
                    · refine v_one ?_
                      · refine v_fn (ok__law_total_right T) (hr.mono (by decide)) T.m__law_total_right T.F__law_total_right.kp (bk__law_total_right_2 T) .nil cst0 ?_
                        · refine w_p ?_
                          · refine an_cons ?_ ?_
                            · exact v_var 1
                            · refine an_cons ?_ ?_
                              · exact v_var 2
                              · exact an_nil
              · exact s_nil
) math
end G11
end
section
set_option Elab.async false
set_option linter.all false
set_option maxRecDepth 100000
set_option maxHeartbeats 4000000
namespace G11
open PySem PySem.Spec PyProof.Rows L2 VS
theorem all_mk {l : PySem.W.OpenLaw} {w : World} {K : PySem.W.Frag} {h : Heap} {mg : Str → Option Value} {fa : Addr} (X : K.In h) (G : h.Ns mainGlobals mg) (hfa : mg "law" = some (.ref fa)) (math : ∀ CR : Addr, Math CR)
    {CR f_is_integer f_is_list f_digits_of f_divisor_of f_Ratio___init__ t_Ratio___init__ p_Ratio_top f_Ratio_top p_Ratio_bottom f_Ratio_bottom p_Ratio_sign f_Ratio_sign p_Ratio_is_whole f_Ratio_is_whole f_told_pair f_Ratio___add__ f_Ratio___radd__ f_Ratio___sub__ f_Ratio___rsub__ f_Ratio___mul__ f_Ratio___rmul__ f_Ratio___neg__ f_Ratio_over f_Ratio_size f_Ratio_is_below f_Ratio_is_at_most f_Ratio___eq__ f_Ratio___str__ f_Ratio___repr__ f_is_number f_ratio_of f_want_number f_total_of p_Ratio_total f_Ratio_total f__law_pot f__law_draw f__law_pick f__law_top f__law_whole f__law_pair f__law_common f__law_is f__law_two_right f__law_whole_right f__law_total_right f_law : Addr}
    {oc_is_integer kV_is_integer dc_is_integer pm_is_integer cd_is_integer ct_is_integer oc_is_list kV_is_list dc_is_list pm_is_list cd_is_list ct_is_list oc_digits_of kV_digits_of dc_digits_of pm_digits_of cd_digits_of ct_digits_of oc_divisor_of kV_divisor_of dc_divisor_of pm_divisor_of cd_divisor_of ct_divisor_of oc_Ratio___init__ kV_Ratio___init__ dc_Ratio___init__ pm_Ratio___init__ cd_Ratio___init__ ct_Ratio___init__ tc_Ratio___init__ oc_Ratio_top kV_Ratio_top dc_Ratio_top pm_Ratio_top cd_Ratio_top ct_Ratio_top oc_Ratio_bottom kV_Ratio_bottom dc_Ratio_bottom pm_Ratio_bottom cd_Ratio_bottom ct_Ratio_bottom oc_Ratio_sign kV_Ratio_sign dc_Ratio_sign pm_Ratio_sign cd_Ratio_sign ct_Ratio_sign oc_Ratio_is_whole kV_Ratio_is_whole dc_Ratio_is_whole pm_Ratio_is_whole cd_Ratio_is_whole ct_Ratio_is_whole oc_told_pair kV_told_pair dc_told_pair pm_told_pair cd_told_pair ct_told_pair oc_Ratio___add__ kV_Ratio___add__ dc_Ratio___add__ pm_Ratio___add__ cd_Ratio___add__ ct_Ratio___add__ oc_Ratio___radd__ kV_Ratio___radd__ dc_Ratio___radd__ pm_Ratio___radd__ cd_Ratio___radd__ ct_Ratio___radd__ oc_Ratio___sub__ kV_Ratio___sub__ dc_Ratio___sub__ pm_Ratio___sub__ cd_Ratio___sub__ ct_Ratio___sub__ oc_Ratio___rsub__ kV_Ratio___rsub__ dc_Ratio___rsub__ pm_Ratio___rsub__ cd_Ratio___rsub__ ct_Ratio___rsub__ oc_Ratio___mul__ kV_Ratio___mul__ dc_Ratio___mul__ pm_Ratio___mul__ cd_Ratio___mul__ ct_Ratio___mul__ oc_Ratio___rmul__ kV_Ratio___rmul__ dc_Ratio___rmul__ pm_Ratio___rmul__ cd_Ratio___rmul__ ct_Ratio___rmul__ oc_Ratio___neg__ kV_Ratio___neg__ dc_Ratio___neg__ pm_Ratio___neg__ cd_Ratio___neg__ ct_Ratio___neg__ oc_Ratio_over kV_Ratio_over dc_Ratio_over pm_Ratio_over cd_Ratio_over ct_Ratio_over oc_Ratio_size kV_Ratio_size dc_Ratio_size pm_Ratio_size cd_Ratio_size ct_Ratio_size oc_Ratio_is_below kV_Ratio_is_below dc_Ratio_is_below pm_Ratio_is_below cd_Ratio_is_below ct_Ratio_is_below oc_Ratio_is_at_most kV_Ratio_is_at_most dc_Ratio_is_at_most pm_Ratio_is_at_most cd_Ratio_is_at_most ct_Ratio_is_at_most oc_Ratio___eq__ kV_Ratio___eq__ dc_Ratio___eq__ pm_Ratio___eq__ cd_Ratio___eq__ ct_Ratio___eq__ oc_Ratio___str__ kV_Ratio___str__ dc_Ratio___str__ pm_Ratio___str__ cd_Ratio___str__ ct_Ratio___str__ oc_Ratio___repr__ kV_Ratio___repr__ dc_Ratio___repr__ pm_Ratio___repr__ cd_Ratio___repr__ ct_Ratio___repr__ oc_is_number kV_is_number dc_is_number pm_is_number cd_is_number ct_is_number oc_ratio_of kV_ratio_of dc_ratio_of pm_ratio_of cd_ratio_of ct_ratio_of oc_want_number kV_want_number dc_want_number pm_want_number cd_want_number ct_want_number oc_total_of kV_total_of dc_total_of pm_total_of cd_total_of ct_total_of oc_Ratio_total kV_Ratio_total dc_Ratio_total pm_Ratio_total cd_Ratio_total ct_Ratio_total oc__law_pot kV__law_pot dc__law_pot pm__law_pot cd__law_pot ct__law_pot oc__law_draw kV__law_draw dc__law_draw pm__law_draw cd__law_draw ct__law_draw oc__law_pick kV__law_pick dc__law_pick pm__law_pick cd__law_pick ct__law_pick oc__law_top kV__law_top dc__law_top pm__law_top cd__law_top ct__law_top oc__law_whole kV__law_whole dc__law_whole pm__law_whole cd__law_whole ct__law_whole oc__law_pair kV__law_pair dc__law_pair pm__law_pair cd__law_pair ct__law_pair oc__law_common kV__law_common dc__law_common pm__law_common cd__law_common ct__law_common oc__law_is kV__law_is dc__law_is pm__law_is cd__law_is ct__law_is oc__law_two_right kV__law_two_right dc__law_two_right pm__law_two_right cd__law_two_right ct__law_two_right oc__law_whole_right kV__law_whole_right dc__law_whole_right pm__law_whole_right cd__law_whole_right ct__law_whole_right oc__law_total_right kV__law_total_right dc__law_total_right pm__law_total_right cd__law_total_right ct__law_total_right oc_law kV_law dc_law pm_law cd_law ct_law : Value}
    {od_is_integer an_is_integer od_is_list an_is_list od_digits_of an_digits_of od_divisor_of an_divisor_of od_Ratio___init__ an_Ratio___init__ td_Ratio___init__ od_Ratio_top an_Ratio_top od_Ratio_bottom an_Ratio_bottom od_Ratio_sign an_Ratio_sign od_Ratio_is_whole an_Ratio_is_whole od_told_pair an_told_pair od_Ratio___add__ an_Ratio___add__ od_Ratio___radd__ an_Ratio___radd__ od_Ratio___sub__ an_Ratio___sub__ od_Ratio___rsub__ an_Ratio___rsub__ od_Ratio___mul__ an_Ratio___mul__ od_Ratio___rmul__ an_Ratio___rmul__ od_Ratio___neg__ an_Ratio___neg__ od_Ratio_over an_Ratio_over od_Ratio_size an_Ratio_size od_Ratio_is_below an_Ratio_is_below od_Ratio_is_at_most an_Ratio_is_at_most od_Ratio___eq__ an_Ratio___eq__ od_Ratio___str__ an_Ratio___str__ od_Ratio___repr__ an_Ratio___repr__ od_is_number an_is_number od_ratio_of an_ratio_of od_want_number an_want_number od_total_of an_total_of od_Ratio_total an_Ratio_total od__law_pot an__law_pot od__law_draw an__law_draw od__law_pick an__law_pick od__law_top an__law_top od__law_whole an__law_whole od__law_pair an__law_pair od__law_common an__law_common od__law_is an__law_is od__law_two_right an__law_two_right od__law_whole_right an__law_whole_right od__law_total_right an__law_total_right od_law an_law : Option Addr}
    {sl_is_integer sl_is_list sl_digits_of sl_divisor_of sl_Ratio___init__ ts_Ratio___init__ sl_Ratio_top sl_Ratio_bottom sl_Ratio_sign sl_Ratio_is_whole sl_told_pair sl_Ratio___add__ sl_Ratio___radd__ sl_Ratio___sub__ sl_Ratio___rsub__ sl_Ratio___mul__ sl_Ratio___rmul__ sl_Ratio___neg__ sl_Ratio_over sl_Ratio_size sl_Ratio_is_below sl_Ratio_is_at_most sl_Ratio___eq__ sl_Ratio___str__ sl_Ratio___repr__ sl_is_number sl_ratio_of sl_want_number sl_total_of sl_Ratio_total sl__law_pot sl__law_draw sl__law_pick sl__law_top sl__law_whole sl__law_pair sl__law_common sl__law_is sl__law_two_right sl__law_whole_right sl__law_total_right sl_law : Array (Option Value)}
    {tn_Ratio___init__ tk_Ratio___init__ tok_PART : Nat}
    {r_Ratio_top r_Ratio_bottom r_Ratio_sign r_Ratio_is_whole r_Ratio_total : List Value}
    {io_add ir_add : Option Value} {io_sub ir_sub : Option Value} {io_mul ir_mul : Option Value}
    (aR : PySem.W.nsIn K mainGlobals "Ratio" = some (some (.ref CR)))
    (a_is_integer : PySem.W.nsIn K mainGlobals "is_integer" = some (some (.ref f_is_integer)))
    (l_is_integer : K.lookup f_is_integer = some ⟨oc_is_integer, od_is_integer, .func (PySem.W.fnOf "is_integer" "is_integer" (defArgs st_is_integer) (defBody st_is_integer) (defScope st_is_integer) .none kV_is_integer dc_is_integer pm_is_integer an_is_integer cd_is_integer ct_is_integer), sl_is_integer⟩)
    (c_is_integer : PySem.W.codeIn K cd_is_integer "is_integer" = true)
    (k_is_integer : PySem.W.keepIn K (.ref f_is_integer) = true)
    (a_is_list : PySem.W.nsIn K mainGlobals "is_list" = some (some (.ref f_is_list)))
    (l_is_list : K.lookup f_is_list = some ⟨oc_is_list, od_is_list, .func (PySem.W.fnOf "is_list" "is_list" (defArgs st_is_list) (defBody st_is_list) (defScope st_is_list) .none kV_is_list dc_is_list pm_is_list an_is_list cd_is_list ct_is_list), sl_is_list⟩)
    (c_is_list : PySem.W.codeIn K cd_is_list "is_list" = true)
    (k_is_list : PySem.W.keepIn K (.ref f_is_list) = true)
    (a_digits_of : PySem.W.nsIn K mainGlobals "digits_of" = some (some (.ref f_digits_of)))
    (l_digits_of : K.lookup f_digits_of = some ⟨oc_digits_of, od_digits_of, .func (PySem.W.fnOf "digits_of" "digits_of" (defArgs st_digits_of) (defBody st_digits_of) (defScope st_digits_of) .none kV_digits_of dc_digits_of pm_digits_of an_digits_of cd_digits_of ct_digits_of), sl_digits_of⟩)
    (c_digits_of : PySem.W.codeIn K cd_digits_of "digits_of" = true)
    (k_digits_of : PySem.W.keepIn K (.ref f_digits_of) = true)
    (a_divisor_of : PySem.W.nsIn K mainGlobals "divisor_of" = some (some (.ref f_divisor_of)))
    (l_divisor_of : K.lookup f_divisor_of = some ⟨oc_divisor_of, od_divisor_of, .func (PySem.W.fnOf "divisor_of" "divisor_of" (defArgs st_divisor_of) (defBody st_divisor_of) (defScope st_divisor_of) .none kV_divisor_of dc_divisor_of pm_divisor_of an_divisor_of cd_divisor_of ct_divisor_of), sl_divisor_of⟩)
    (c_divisor_of : PySem.W.codeIn K cd_divisor_of "divisor_of" = true)
    (k_divisor_of : PySem.W.keepIn K (.ref f_divisor_of) = true)
    (a_Ratio___init__ : PySem.W.findIn K (.ref CR) "__init__" = some (some (.ref f_Ratio___init__)))
    (i_Ratio___init__ : PySem.W.isFn K (.ref f_Ratio___init__) = true)
    (l_Ratio___init__ : K.lookup f_Ratio___init__ = some ⟨oc_Ratio___init__, od_Ratio___init__, .func (PySem.W.fnOf "__init__" "Ratio.__init__" (defArgs st_Ratio___init__) (defBody st_Ratio___init__) (defScope st_Ratio___init__) (.ref t_Ratio___init__) kV_Ratio___init__ dc_Ratio___init__ pm_Ratio___init__ an_Ratio___init__ cd_Ratio___init__ ct_Ratio___init__), sl_Ratio___init__⟩)
    (c_Ratio___init__ : PySem.W.codeIn K cd_Ratio___init__ "Ratio.__init__" = true)
    (k_Ratio___init__ : PySem.W.keepIn K (.ref f_Ratio___init__) = true)
    (t1_Ratio___init__ : K.lookup t_Ratio___init__ = some ⟨tc_Ratio___init__, td_Ratio___init__, .seq #[.int 1 tk_Ratio___init__] tn_Ratio___init__, ts_Ratio___init__⟩)
    (a_Ratio_top : PySem.W.findIn K (.ref CR) "top" = some (some (.ref p_Ratio_top)))
    (b_Ratio_top : PySem.W.recIn K p_Ratio_top "property" = some (.ref f_Ratio_top :: r_Ratio_top))
    (e_Ratio_top : PySem.W.specialIn K (.ref p_Ratio_top) "__get__" = some (some (.builtin "property.__get__")))
    (g_Ratio_top : PySem.W.takesIn K (.ref p_Ratio_top) = some true)
    (l_Ratio_top : K.lookup f_Ratio_top = some ⟨oc_Ratio_top, od_Ratio_top, .func (PySem.W.fnOf "top" "Ratio.top" (defArgs st_Ratio_top) (defBody st_Ratio_top) (defScope st_Ratio_top) .none kV_Ratio_top dc_Ratio_top pm_Ratio_top an_Ratio_top cd_Ratio_top ct_Ratio_top), sl_Ratio_top⟩)
    (c_Ratio_top : PySem.W.codeIn K cd_Ratio_top "Ratio.top" = true)
    (k_Ratio_top : PySem.W.keepIn K (.ref f_Ratio_top) = true)
    (a_Ratio_bottom : PySem.W.findIn K (.ref CR) "bottom" = some (some (.ref p_Ratio_bottom)))
    (b_Ratio_bottom : PySem.W.recIn K p_Ratio_bottom "property" = some (.ref f_Ratio_bottom :: r_Ratio_bottom))
    (e_Ratio_bottom : PySem.W.specialIn K (.ref p_Ratio_bottom) "__get__" = some (some (.builtin "property.__get__")))
    (g_Ratio_bottom : PySem.W.takesIn K (.ref p_Ratio_bottom) = some true)
    (l_Ratio_bottom : K.lookup f_Ratio_bottom = some ⟨oc_Ratio_bottom, od_Ratio_bottom, .func (PySem.W.fnOf "bottom" "Ratio.bottom" (defArgs st_Ratio_bottom) (defBody st_Ratio_bottom) (defScope st_Ratio_bottom) .none kV_Ratio_bottom dc_Ratio_bottom pm_Ratio_bottom an_Ratio_bottom cd_Ratio_bottom ct_Ratio_bottom), sl_Ratio_bottom⟩)
    (c_Ratio_bottom : PySem.W.codeIn K cd_Ratio_bottom "Ratio.bottom" = true)
    (k_Ratio_bottom : PySem.W.keepIn K (.ref f_Ratio_bottom) = true)
    (a_Ratio_sign : PySem.W.findIn K (.ref CR) "sign" = some (some (.ref p_Ratio_sign)))
    (b_Ratio_sign : PySem.W.recIn K p_Ratio_sign "property" = some (.ref f_Ratio_sign :: r_Ratio_sign))
    (e_Ratio_sign : PySem.W.specialIn K (.ref p_Ratio_sign) "__get__" = some (some (.builtin "property.__get__")))
    (g_Ratio_sign : PySem.W.takesIn K (.ref p_Ratio_sign) = some true)
    (l_Ratio_sign : K.lookup f_Ratio_sign = some ⟨oc_Ratio_sign, od_Ratio_sign, .func (PySem.W.fnOf "sign" "Ratio.sign" (defArgs st_Ratio_sign) (defBody st_Ratio_sign) (defScope st_Ratio_sign) .none kV_Ratio_sign dc_Ratio_sign pm_Ratio_sign an_Ratio_sign cd_Ratio_sign ct_Ratio_sign), sl_Ratio_sign⟩)
    (c_Ratio_sign : PySem.W.codeIn K cd_Ratio_sign "Ratio.sign" = true)
    (k_Ratio_sign : PySem.W.keepIn K (.ref f_Ratio_sign) = true)
    (a_Ratio_is_whole : PySem.W.findIn K (.ref CR) "is_whole" = some (some (.ref p_Ratio_is_whole)))
    (b_Ratio_is_whole : PySem.W.recIn K p_Ratio_is_whole "property" = some (.ref f_Ratio_is_whole :: r_Ratio_is_whole))
    (e_Ratio_is_whole : PySem.W.specialIn K (.ref p_Ratio_is_whole) "__get__" = some (some (.builtin "property.__get__")))
    (g_Ratio_is_whole : PySem.W.takesIn K (.ref p_Ratio_is_whole) = some true)
    (l_Ratio_is_whole : K.lookup f_Ratio_is_whole = some ⟨oc_Ratio_is_whole, od_Ratio_is_whole, .func (PySem.W.fnOf "is_whole" "Ratio.is_whole" (defArgs st_Ratio_is_whole) (defBody st_Ratio_is_whole) (defScope st_Ratio_is_whole) .none kV_Ratio_is_whole dc_Ratio_is_whole pm_Ratio_is_whole an_Ratio_is_whole cd_Ratio_is_whole ct_Ratio_is_whole), sl_Ratio_is_whole⟩)
    (c_Ratio_is_whole : PySem.W.codeIn K cd_Ratio_is_whole "Ratio.is_whole" = true)
    (k_Ratio_is_whole : PySem.W.keepIn K (.ref f_Ratio_is_whole) = true)
    (a_told_pair : PySem.W.nsIn K mainGlobals "told_pair" = some (some (.ref f_told_pair)))
    (l_told_pair : K.lookup f_told_pair = some ⟨oc_told_pair, od_told_pair, .func (PySem.W.fnOf "told_pair" "told_pair" (defArgs st_told_pair) (defBody st_told_pair) (defScope st_told_pair) .none kV_told_pair dc_told_pair pm_told_pair an_told_pair cd_told_pair ct_told_pair), sl_told_pair⟩)
    (c_told_pair : PySem.W.codeIn K cd_told_pair "told_pair" = true)
    (k_told_pair : PySem.W.keepIn K (.ref f_told_pair) = true)
    (a_Ratio___add__ : PySem.W.findIn K (.ref CR) "__add__" = some (some (.ref f_Ratio___add__)))
    (i_Ratio___add__ : PySem.W.isFn K (.ref f_Ratio___add__) = true)
    (l_Ratio___add__ : K.lookup f_Ratio___add__ = some ⟨oc_Ratio___add__, od_Ratio___add__, .func (PySem.W.fnOf "__add__" "Ratio.__add__" (defArgs st_Ratio___add__) (defBody st_Ratio___add__) (defScope st_Ratio___add__) .none kV_Ratio___add__ dc_Ratio___add__ pm_Ratio___add__ an_Ratio___add__ cd_Ratio___add__ ct_Ratio___add__), sl_Ratio___add__⟩)
    (c_Ratio___add__ : PySem.W.codeIn K cd_Ratio___add__ "Ratio.__add__" = true)
    (k_Ratio___add__ : PySem.W.keepIn K (.ref f_Ratio___add__) = true)
    (a_Ratio___radd__ : PySem.W.findIn K (.ref CR) "__radd__" = some (some (.ref f_Ratio___radd__)))
    (i_Ratio___radd__ : PySem.W.isFn K (.ref f_Ratio___radd__) = true)
    (l_Ratio___radd__ : K.lookup f_Ratio___radd__ = some ⟨oc_Ratio___radd__, od_Ratio___radd__, .func (PySem.W.fnOf "__radd__" "Ratio.__radd__" (defArgs st_Ratio___radd__) (defBody st_Ratio___radd__) (defScope st_Ratio___radd__) .none kV_Ratio___radd__ dc_Ratio___radd__ pm_Ratio___radd__ an_Ratio___radd__ cd_Ratio___radd__ ct_Ratio___radd__), sl_Ratio___radd__⟩)
    (c_Ratio___radd__ : PySem.W.codeIn K cd_Ratio___radd__ "Ratio.__radd__" = true)
    (k_Ratio___radd__ : PySem.W.keepIn K (.ref f_Ratio___radd__) = true)
    (a_Ratio___sub__ : PySem.W.findIn K (.ref CR) "__sub__" = some (some (.ref f_Ratio___sub__)))
    (i_Ratio___sub__ : PySem.W.isFn K (.ref f_Ratio___sub__) = true)
    (l_Ratio___sub__ : K.lookup f_Ratio___sub__ = some ⟨oc_Ratio___sub__, od_Ratio___sub__, .func (PySem.W.fnOf "__sub__" "Ratio.__sub__" (defArgs st_Ratio___sub__) (defBody st_Ratio___sub__) (defScope st_Ratio___sub__) .none kV_Ratio___sub__ dc_Ratio___sub__ pm_Ratio___sub__ an_Ratio___sub__ cd_Ratio___sub__ ct_Ratio___sub__), sl_Ratio___sub__⟩)
    (c_Ratio___sub__ : PySem.W.codeIn K cd_Ratio___sub__ "Ratio.__sub__" = true)
    (k_Ratio___sub__ : PySem.W.keepIn K (.ref f_Ratio___sub__) = true)
    (a_Ratio___rsub__ : PySem.W.findIn K (.ref CR) "__rsub__" = some (some (.ref f_Ratio___rsub__)))
    (i_Ratio___rsub__ : PySem.W.isFn K (.ref f_Ratio___rsub__) = true)
    (l_Ratio___rsub__ : K.lookup f_Ratio___rsub__ = some ⟨oc_Ratio___rsub__, od_Ratio___rsub__, .func (PySem.W.fnOf "__rsub__" "Ratio.__rsub__" (defArgs st_Ratio___rsub__) (defBody st_Ratio___rsub__) (defScope st_Ratio___rsub__) .none kV_Ratio___rsub__ dc_Ratio___rsub__ pm_Ratio___rsub__ an_Ratio___rsub__ cd_Ratio___rsub__ ct_Ratio___rsub__), sl_Ratio___rsub__⟩)
    (c_Ratio___rsub__ : PySem.W.codeIn K cd_Ratio___rsub__ "Ratio.__rsub__" = true)
    (k_Ratio___rsub__ : PySem.W.keepIn K (.ref f_Ratio___rsub__) = true)
    (a_Ratio___mul__ : PySem.W.findIn K (.ref CR) "__mul__" = some (some (.ref f_Ratio___mul__)))
    (i_Ratio___mul__ : PySem.W.isFn K (.ref f_Ratio___mul__) = true)
    (l_Ratio___mul__ : K.lookup f_Ratio___mul__ = some ⟨oc_Ratio___mul__, od_Ratio___mul__, .func (PySem.W.fnOf "__mul__" "Ratio.__mul__" (defArgs st_Ratio___mul__) (defBody st_Ratio___mul__) (defScope st_Ratio___mul__) .none kV_Ratio___mul__ dc_Ratio___mul__ pm_Ratio___mul__ an_Ratio___mul__ cd_Ratio___mul__ ct_Ratio___mul__), sl_Ratio___mul__⟩)
    (c_Ratio___mul__ : PySem.W.codeIn K cd_Ratio___mul__ "Ratio.__mul__" = true)
    (k_Ratio___mul__ : PySem.W.keepIn K (.ref f_Ratio___mul__) = true)
    (a_Ratio___rmul__ : PySem.W.findIn K (.ref CR) "__rmul__" = some (some (.ref f_Ratio___rmul__)))
    (i_Ratio___rmul__ : PySem.W.isFn K (.ref f_Ratio___rmul__) = true)
    (l_Ratio___rmul__ : K.lookup f_Ratio___rmul__ = some ⟨oc_Ratio___rmul__, od_Ratio___rmul__, .func (PySem.W.fnOf "__rmul__" "Ratio.__rmul__" (defArgs st_Ratio___rmul__) (defBody st_Ratio___rmul__) (defScope st_Ratio___rmul__) .none kV_Ratio___rmul__ dc_Ratio___rmul__ pm_Ratio___rmul__ an_Ratio___rmul__ cd_Ratio___rmul__ ct_Ratio___rmul__), sl_Ratio___rmul__⟩)
    (c_Ratio___rmul__ : PySem.W.codeIn K cd_Ratio___rmul__ "Ratio.__rmul__" = true)
    (k_Ratio___rmul__ : PySem.W.keepIn K (.ref f_Ratio___rmul__) = true)
    (a_Ratio___neg__ : PySem.W.findIn K (.ref CR) "__neg__" = some (some (.ref f_Ratio___neg__)))
    (i_Ratio___neg__ : PySem.W.isFn K (.ref f_Ratio___neg__) = true)
    (l_Ratio___neg__ : K.lookup f_Ratio___neg__ = some ⟨oc_Ratio___neg__, od_Ratio___neg__, .func (PySem.W.fnOf "__neg__" "Ratio.__neg__" (defArgs st_Ratio___neg__) (defBody st_Ratio___neg__) (defScope st_Ratio___neg__) .none kV_Ratio___neg__ dc_Ratio___neg__ pm_Ratio___neg__ an_Ratio___neg__ cd_Ratio___neg__ ct_Ratio___neg__), sl_Ratio___neg__⟩)
    (c_Ratio___neg__ : PySem.W.codeIn K cd_Ratio___neg__ "Ratio.__neg__" = true)
    (k_Ratio___neg__ : PySem.W.keepIn K (.ref f_Ratio___neg__) = true)
    (a_Ratio_over : PySem.W.findIn K (.ref CR) "over" = some (some (.ref f_Ratio_over)))
    (i_Ratio_over : PySem.W.isFn K (.ref f_Ratio_over) = true)
    (l_Ratio_over : K.lookup f_Ratio_over = some ⟨oc_Ratio_over, od_Ratio_over, .func (PySem.W.fnOf "over" "Ratio.over" (defArgs st_Ratio_over) (defBody st_Ratio_over) (defScope st_Ratio_over) .none kV_Ratio_over dc_Ratio_over pm_Ratio_over an_Ratio_over cd_Ratio_over ct_Ratio_over), sl_Ratio_over⟩)
    (c_Ratio_over : PySem.W.codeIn K cd_Ratio_over "Ratio.over" = true)
    (k_Ratio_over : PySem.W.keepIn K (.ref f_Ratio_over) = true)
    (a_Ratio_size : PySem.W.findIn K (.ref CR) "size" = some (some (.ref f_Ratio_size)))
    (i_Ratio_size : PySem.W.isFn K (.ref f_Ratio_size) = true)
    (l_Ratio_size : K.lookup f_Ratio_size = some ⟨oc_Ratio_size, od_Ratio_size, .func (PySem.W.fnOf "size" "Ratio.size" (defArgs st_Ratio_size) (defBody st_Ratio_size) (defScope st_Ratio_size) .none kV_Ratio_size dc_Ratio_size pm_Ratio_size an_Ratio_size cd_Ratio_size ct_Ratio_size), sl_Ratio_size⟩)
    (c_Ratio_size : PySem.W.codeIn K cd_Ratio_size "Ratio.size" = true)
    (k_Ratio_size : PySem.W.keepIn K (.ref f_Ratio_size) = true)
    (a_Ratio_is_below : PySem.W.findIn K (.ref CR) "is_below" = some (some (.ref f_Ratio_is_below)))
    (i_Ratio_is_below : PySem.W.isFn K (.ref f_Ratio_is_below) = true)
    (l_Ratio_is_below : K.lookup f_Ratio_is_below = some ⟨oc_Ratio_is_below, od_Ratio_is_below, .func (PySem.W.fnOf "is_below" "Ratio.is_below" (defArgs st_Ratio_is_below) (defBody st_Ratio_is_below) (defScope st_Ratio_is_below) .none kV_Ratio_is_below dc_Ratio_is_below pm_Ratio_is_below an_Ratio_is_below cd_Ratio_is_below ct_Ratio_is_below), sl_Ratio_is_below⟩)
    (c_Ratio_is_below : PySem.W.codeIn K cd_Ratio_is_below "Ratio.is_below" = true)
    (k_Ratio_is_below : PySem.W.keepIn K (.ref f_Ratio_is_below) = true)
    (a_Ratio_is_at_most : PySem.W.findIn K (.ref CR) "is_at_most" = some (some (.ref f_Ratio_is_at_most)))
    (i_Ratio_is_at_most : PySem.W.isFn K (.ref f_Ratio_is_at_most) = true)
    (l_Ratio_is_at_most : K.lookup f_Ratio_is_at_most = some ⟨oc_Ratio_is_at_most, od_Ratio_is_at_most, .func (PySem.W.fnOf "is_at_most" "Ratio.is_at_most" (defArgs st_Ratio_is_at_most) (defBody st_Ratio_is_at_most) (defScope st_Ratio_is_at_most) .none kV_Ratio_is_at_most dc_Ratio_is_at_most pm_Ratio_is_at_most an_Ratio_is_at_most cd_Ratio_is_at_most ct_Ratio_is_at_most), sl_Ratio_is_at_most⟩)
    (c_Ratio_is_at_most : PySem.W.codeIn K cd_Ratio_is_at_most "Ratio.is_at_most" = true)
    (k_Ratio_is_at_most : PySem.W.keepIn K (.ref f_Ratio_is_at_most) = true)
    (a_Ratio___eq__ : PySem.W.findIn K (.ref CR) "__eq__" = some (some (.ref f_Ratio___eq__)))
    (i_Ratio___eq__ : PySem.W.isFn K (.ref f_Ratio___eq__) = true)
    (l_Ratio___eq__ : K.lookup f_Ratio___eq__ = some ⟨oc_Ratio___eq__, od_Ratio___eq__, .func (PySem.W.fnOf "__eq__" "Ratio.__eq__" (defArgs st_Ratio___eq__) (defBody st_Ratio___eq__) (defScope st_Ratio___eq__) .none kV_Ratio___eq__ dc_Ratio___eq__ pm_Ratio___eq__ an_Ratio___eq__ cd_Ratio___eq__ ct_Ratio___eq__), sl_Ratio___eq__⟩)
    (c_Ratio___eq__ : PySem.W.codeIn K cd_Ratio___eq__ "Ratio.__eq__" = true)
    (k_Ratio___eq__ : PySem.W.keepIn K (.ref f_Ratio___eq__) = true)
    (a_Ratio___str__ : PySem.W.findIn K (.ref CR) "__str__" = some (some (.ref f_Ratio___str__)))
    (i_Ratio___str__ : PySem.W.isFn K (.ref f_Ratio___str__) = true)
    (l_Ratio___str__ : K.lookup f_Ratio___str__ = some ⟨oc_Ratio___str__, od_Ratio___str__, .func (PySem.W.fnOf "__str__" "Ratio.__str__" (defArgs st_Ratio___str__) (defBody st_Ratio___str__) (defScope st_Ratio___str__) .none kV_Ratio___str__ dc_Ratio___str__ pm_Ratio___str__ an_Ratio___str__ cd_Ratio___str__ ct_Ratio___str__), sl_Ratio___str__⟩)
    (c_Ratio___str__ : PySem.W.codeIn K cd_Ratio___str__ "Ratio.__str__" = true)
    (k_Ratio___str__ : PySem.W.keepIn K (.ref f_Ratio___str__) = true)
    (a_Ratio___repr__ : PySem.W.findIn K (.ref CR) "__repr__" = some (some (.ref f_Ratio___repr__)))
    (i_Ratio___repr__ : PySem.W.isFn K (.ref f_Ratio___repr__) = true)
    (l_Ratio___repr__ : K.lookup f_Ratio___repr__ = some ⟨oc_Ratio___repr__, od_Ratio___repr__, .func (PySem.W.fnOf "__repr__" "Ratio.__repr__" (defArgs st_Ratio___repr__) (defBody st_Ratio___repr__) (defScope st_Ratio___repr__) .none kV_Ratio___repr__ dc_Ratio___repr__ pm_Ratio___repr__ an_Ratio___repr__ cd_Ratio___repr__ ct_Ratio___repr__), sl_Ratio___repr__⟩)
    (c_Ratio___repr__ : PySem.W.codeIn K cd_Ratio___repr__ "Ratio.__repr__" = true)
    (k_Ratio___repr__ : PySem.W.keepIn K (.ref f_Ratio___repr__) = true)
    (a_is_number : PySem.W.nsIn K mainGlobals "is_number" = some (some (.ref f_is_number)))
    (l_is_number : K.lookup f_is_number = some ⟨oc_is_number, od_is_number, .func (PySem.W.fnOf "is_number" "is_number" (defArgs st_is_number) (defBody st_is_number) (defScope st_is_number) .none kV_is_number dc_is_number pm_is_number an_is_number cd_is_number ct_is_number), sl_is_number⟩)
    (c_is_number : PySem.W.codeIn K cd_is_number "is_number" = true)
    (k_is_number : PySem.W.keepIn K (.ref f_is_number) = true)
    (a_ratio_of : PySem.W.nsIn K mainGlobals "ratio_of" = some (some (.ref f_ratio_of)))
    (l_ratio_of : K.lookup f_ratio_of = some ⟨oc_ratio_of, od_ratio_of, .func (PySem.W.fnOf "ratio_of" "ratio_of" (defArgs st_ratio_of) (defBody st_ratio_of) (defScope st_ratio_of) .none kV_ratio_of dc_ratio_of pm_ratio_of an_ratio_of cd_ratio_of ct_ratio_of), sl_ratio_of⟩)
    (c_ratio_of : PySem.W.codeIn K cd_ratio_of "ratio_of" = true)
    (k_ratio_of : PySem.W.keepIn K (.ref f_ratio_of) = true)
    (a_want_number : PySem.W.nsIn K mainGlobals "want_number" = some (some (.ref f_want_number)))
    (l_want_number : K.lookup f_want_number = some ⟨oc_want_number, od_want_number, .func (PySem.W.fnOf "want_number" "want_number" (defArgs st_want_number) (defBody st_want_number) (defScope st_want_number) .none kV_want_number dc_want_number pm_want_number an_want_number cd_want_number ct_want_number), sl_want_number⟩)
    (c_want_number : PySem.W.codeIn K cd_want_number "want_number" = true)
    (k_want_number : PySem.W.keepIn K (.ref f_want_number) = true)
    (a_total_of : PySem.W.nsIn K mainGlobals "total_of" = some (some (.ref f_total_of)))
    (l_total_of : K.lookup f_total_of = some ⟨oc_total_of, od_total_of, .func (PySem.W.fnOf "total_of" "total_of" (defArgs st_total_of) (defBody st_total_of) (defScope st_total_of) .none kV_total_of dc_total_of pm_total_of an_total_of cd_total_of ct_total_of), sl_total_of⟩)
    (c_total_of : PySem.W.codeIn K cd_total_of "total_of" = true)
    (k_total_of : PySem.W.keepIn K (.ref f_total_of) = true)
    (a_Ratio_total : PySem.W.findCls K (.ref CR) (.type "type") "total" = some (.get (.builtin "classmethod.__get__") (.ref p_Ratio_total) .none (.ref CR)))
    (b_Ratio_total : PySem.W.recIn K p_Ratio_total "classmethod" = some (.ref f_Ratio_total :: r_Ratio_total))
    (e_Ratio_total : PySem.W.fnIn K f_Ratio_total = true)
    (g_Ratio_total : PySem.W.readsIn K CR (.type "type") = true)
    (i_Ratio_total : PySem.W.specialIn K (.ref CR) "__getattribute__" = some (some (.builtin "type.__getattribute__")))
    (l_Ratio_total : K.lookup f_Ratio_total = some ⟨oc_Ratio_total, od_Ratio_total, .func (PySem.W.fnOf "total" "Ratio.total" (defArgs st_Ratio_total) (defBody st_Ratio_total) (defScope st_Ratio_total) .none kV_Ratio_total dc_Ratio_total pm_Ratio_total an_Ratio_total cd_Ratio_total ct_Ratio_total), sl_Ratio_total⟩)
    (c_Ratio_total : PySem.W.codeIn K cd_Ratio_total "Ratio.total" = true)
    (k_Ratio_total : PySem.W.keepIn K (.ref f_Ratio_total) = true)
    (a__law_pot : PySem.W.nsIn K mainGlobals "_law_pot" = some (some (.ref f__law_pot)))
    (l__law_pot : K.lookup f__law_pot = some ⟨oc__law_pot, od__law_pot, .func (PySem.W.fnOf "_law_pot" "_law_pot" (defArgs st__law_pot) (defBody st__law_pot) (defScope st__law_pot) .none kV__law_pot dc__law_pot pm__law_pot an__law_pot cd__law_pot ct__law_pot), sl__law_pot⟩)
    (c__law_pot : PySem.W.codeIn K cd__law_pot "_law_pot" = true)
    (k__law_pot : PySem.W.keepIn K (.ref f__law_pot) = true)
    (a__law_draw : PySem.W.nsIn K mainGlobals "_law_draw" = some (some (.ref f__law_draw)))
    (l__law_draw : K.lookup f__law_draw = some ⟨oc__law_draw, od__law_draw, .func (PySem.W.fnOf "_law_draw" "_law_draw" (defArgs st__law_draw) (defBody st__law_draw) (defScope st__law_draw) .none kV__law_draw dc__law_draw pm__law_draw an__law_draw cd__law_draw ct__law_draw), sl__law_draw⟩)
    (c__law_draw : PySem.W.codeIn K cd__law_draw "_law_draw" = true)
    (k__law_draw : PySem.W.keepIn K (.ref f__law_draw) = true)
    (a__law_pick : PySem.W.nsIn K mainGlobals "_law_pick" = some (some (.ref f__law_pick)))
    (l__law_pick : K.lookup f__law_pick = some ⟨oc__law_pick, od__law_pick, .func (PySem.W.fnOf "_law_pick" "_law_pick" (defArgs st__law_pick) (defBody st__law_pick) (defScope st__law_pick) .none kV__law_pick dc__law_pick pm__law_pick an__law_pick cd__law_pick ct__law_pick), sl__law_pick⟩)
    (c__law_pick : PySem.W.codeIn K cd__law_pick "_law_pick" = true)
    (k__law_pick : PySem.W.keepIn K (.ref f__law_pick) = true)
    (a__law_top : PySem.W.nsIn K mainGlobals "_law_top" = some (some (.ref f__law_top)))
    (l__law_top : K.lookup f__law_top = some ⟨oc__law_top, od__law_top, .func (PySem.W.fnOf "_law_top" "_law_top" (defArgs st__law_top) (defBody st__law_top) (defScope st__law_top) .none kV__law_top dc__law_top pm__law_top an__law_top cd__law_top ct__law_top), sl__law_top⟩)
    (c__law_top : PySem.W.codeIn K cd__law_top "_law_top" = true)
    (k__law_top : PySem.W.keepIn K (.ref f__law_top) = true)
    (a__law_whole : PySem.W.nsIn K mainGlobals "_law_whole" = some (some (.ref f__law_whole)))
    (l__law_whole : K.lookup f__law_whole = some ⟨oc__law_whole, od__law_whole, .func (PySem.W.fnOf "_law_whole" "_law_whole" (defArgs st__law_whole) (defBody st__law_whole) (defScope st__law_whole) .none kV__law_whole dc__law_whole pm__law_whole an__law_whole cd__law_whole ct__law_whole), sl__law_whole⟩)
    (c__law_whole : PySem.W.codeIn K cd__law_whole "_law_whole" = true)
    (k__law_whole : PySem.W.keepIn K (.ref f__law_whole) = true)
    (a__law_pair : PySem.W.nsIn K mainGlobals "_law_pair" = some (some (.ref f__law_pair)))
    (l__law_pair : K.lookup f__law_pair = some ⟨oc__law_pair, od__law_pair, .func (PySem.W.fnOf "_law_pair" "_law_pair" (defArgs st__law_pair) (defBody st__law_pair) (defScope st__law_pair) .none kV__law_pair dc__law_pair pm__law_pair an__law_pair cd__law_pair ct__law_pair), sl__law_pair⟩)
    (c__law_pair : PySem.W.codeIn K cd__law_pair "_law_pair" = true)
    (k__law_pair : PySem.W.keepIn K (.ref f__law_pair) = true)
    (a__law_common : PySem.W.nsIn K mainGlobals "_law_common" = some (some (.ref f__law_common)))
    (l__law_common : K.lookup f__law_common = some ⟨oc__law_common, od__law_common, .func (PySem.W.fnOf "_law_common" "_law_common" (defArgs st__law_common) (defBody st__law_common) (defScope st__law_common) .none kV__law_common dc__law_common pm__law_common an__law_common cd__law_common ct__law_common), sl__law_common⟩)
    (c__law_common : PySem.W.codeIn K cd__law_common "_law_common" = true)
    (k__law_common : PySem.W.keepIn K (.ref f__law_common) = true)
    (a__law_is : PySem.W.nsIn K mainGlobals "_law_is" = some (some (.ref f__law_is)))
    (l__law_is : K.lookup f__law_is = some ⟨oc__law_is, od__law_is, .func (PySem.W.fnOf "_law_is" "_law_is" (defArgs st__law_is) (defBody st__law_is) (defScope st__law_is) .none kV__law_is dc__law_is pm__law_is an__law_is cd__law_is ct__law_is), sl__law_is⟩)
    (c__law_is : PySem.W.codeIn K cd__law_is "_law_is" = true)
    (k__law_is : PySem.W.keepIn K (.ref f__law_is) = true)
    (a__law_two_right : PySem.W.nsIn K mainGlobals "_law_two_right" = some (some (.ref f__law_two_right)))
    (l__law_two_right : K.lookup f__law_two_right = some ⟨oc__law_two_right, od__law_two_right, .func (PySem.W.fnOf "_law_two_right" "_law_two_right" (defArgs st__law_two_right) (defBody st__law_two_right) (defScope st__law_two_right) .none kV__law_two_right dc__law_two_right pm__law_two_right an__law_two_right cd__law_two_right ct__law_two_right), sl__law_two_right⟩)
    (c__law_two_right : PySem.W.codeIn K cd__law_two_right "_law_two_right" = true)
    (k__law_two_right : PySem.W.keepIn K (.ref f__law_two_right) = true)
    (a__law_whole_right : PySem.W.nsIn K mainGlobals "_law_whole_right" = some (some (.ref f__law_whole_right)))
    (l__law_whole_right : K.lookup f__law_whole_right = some ⟨oc__law_whole_right, od__law_whole_right, .func (PySem.W.fnOf "_law_whole_right" "_law_whole_right" (defArgs st__law_whole_right) (defBody st__law_whole_right) (defScope st__law_whole_right) .none kV__law_whole_right dc__law_whole_right pm__law_whole_right an__law_whole_right cd__law_whole_right ct__law_whole_right), sl__law_whole_right⟩)
    (c__law_whole_right : PySem.W.codeIn K cd__law_whole_right "_law_whole_right" = true)
    (k__law_whole_right : PySem.W.keepIn K (.ref f__law_whole_right) = true)
    (a__law_total_right : PySem.W.nsIn K mainGlobals "_law_total_right" = some (some (.ref f__law_total_right)))
    (l__law_total_right : K.lookup f__law_total_right = some ⟨oc__law_total_right, od__law_total_right, .func (PySem.W.fnOf "_law_total_right" "_law_total_right" (defArgs st__law_total_right) (defBody st__law_total_right) (defScope st__law_total_right) .none kV__law_total_right dc__law_total_right pm__law_total_right an__law_total_right cd__law_total_right ct__law_total_right), sl__law_total_right⟩)
    (c__law_total_right : PySem.W.codeIn K cd__law_total_right "_law_total_right" = true)
    (k__law_total_right : PySem.W.keepIn K (.ref f__law_total_right) = true)
    (a_law : PySem.W.nsIn K mainGlobals "law" = some (some (.ref f_law)))
    (l_law : K.lookup f_law = some ⟨oc_law, od_law, .func (PySem.W.fnOf "law" "law" (defArgs st_law) (defBody st_law) (defScope st_law) .none kV_law dc_law pm_law an_law cd_law ct_law), sl_law⟩)
    (c_law : PySem.W.codeIn K cd_law "law" = true)
    (k_law : PySem.W.keepIn K (.ref f_law) = true)
    (pgR : PySem.W.plainGet K CR Str.empty = true)
    (hdR : PySem.W.hasDictIn K CR = true)
    (poR : PySem.W.plainOver K CR = true)
    (saR : PySem.W.findIn K (.ref CR) "__setattr__" = some (some (.builtin "object.__setattr__")))
    (haR : PySem.W.findIn K (.ref CR) "__class__" = some (some (.builtin "object.__class__")))
    (hnR : PySem.W.specialIn K (.builtin "object.__class__") "__get__" = some (some (.builtin "getset_descriptor.__get__")))
    (htR : PySem.W.takesIn K (.builtin "object.__class__") = some true)
    (hmR : PySem.W.mroIn K CR (.type "object") = some true)
    (wiR : PySem.W.kitOne K (.ref CR) (.type "int") = some false)
    (wbR : PySem.W.kitOne K (.ref CR) (.type "bool") = some false)
    (wlR : PySem.W.kitOne K (.ref CR) (.type "list") = some false)
    (wtR : PySem.W.kitOne K (.ref CR) (.type "tuple") = some false)
    (wmR : PySem.W.kitOne K (.ref CR) (.ref CR) = some true)
    (wfiR : PySem.W.kitOne K (.type "int") (.ref CR) = some false)
    (wfbR : PySem.W.kitOne K (.type "bool") (.ref CR) = some false)
    (wflR : PySem.W.kitOne K (.type "list") (.ref CR) = some false)
    (wftR : PySem.W.kitOne K (.type "tuple") (.ref CR) = some false)
    (wfsR : PySem.W.kitOne K (.type "str") (.ref CR) = some false)
    (wfnR : PySem.W.kitOne K (.type "NoneType") (.ref CR) = some false)
    (mkR : PySem.W.makesIn K CR = true)
    (kpR : PySem.W.keepIn K (.ref CR) = true)
    (neR : PySem.W.findIn K (.ref CR) "__ne__" = some (some (.builtin "object.__ne__")))
    (soR : PySem.W.subIn K (.ref CR) (.type "object") = some true)
    (niR : PySem.W.notFirst K CR (.type "int") = true)
    (nmR : PySem.W.notFirst K CR (.ref CR) = true)
    (n_own_top : PySem.W.findIn K (.ref CR) "own_top" = some none)
    (n_own_bottom : PySem.W.findIn K (.ref CR) "own_bottom" = some none)
    (sf : PySem.W.selfFirst K CR = true)
    (s1 : PySem.W.subIn K (.type "int") (.ref CR) = some false)
    (s2 : PySem.W.subIn K (.ref CR) (.type "int") = some false)
    (o1_add : PySem.W.findIn K (.type "int") "__add__" = some io_add)
    (o2_add : PySem.W.findIn K (.type "int") "__radd__" = some ir_add)
    (o1_sub : PySem.W.findIn K (.type "int") "__sub__" = some io_sub)
    (o2_sub : PySem.W.findIn K (.type "int") "__rsub__" = some ir_sub)
    (o1_mul : PySem.W.findIn K (.type "int") "__mul__" = some io_mul)
    (o2_mul : PySem.W.findIn K (.type "int") "__rmul__" = some ir_mul)
    (a_PART : PySem.W.nsIn K mainGlobals "PART" = some (some (.int 1000000000000000000000000000000000000000000000000000000000000 tok_PART)))
    (b_isinstance : PySem.W.nsIn K mainGlobals "isinstance" = some none)
    (b_int : PySem.W.nsIn K mainGlobals "int" = some none)
    (b_bool : PySem.W.nsIn K mainGlobals "bool" = some none)
    (b_list : PySem.W.nsIn K mainGlobals "list" = some none)
    (b_tuple : PySem.W.nsIn K mainGlobals "tuple" = some none)
    (b_str : PySem.W.nsIn K mainGlobals "str" = some none)
    (b_repr : PySem.W.nsIn K mainGlobals "repr" = some none)
    (b_abs : PySem.W.nsIn K mainGlobals "abs" = some none)
    (b_max : PySem.W.nsIn K mainGlobals "max" = some none)
    (b_len : PySem.W.nsIn K mainGlobals "len" = some none)
    (b_divmod : PySem.W.nsIn K mainGlobals "divmod" = some none)
    (b_all : PySem.W.nsIn K mainGlobals "all" = some none)
    (b_range : PySem.W.nsIn K mainGlobals "range" = some none)
    (a_gcd : PySem.W.nsIn K mainGlobals "gcd" = some (some (.builtin "math.gcd")))
    : ∃ fd : FuncData, (∀ (s : Shared) (v : Value), BindsTo s fd ⟨[v], []⟩ [("_law_script", v)]) ∧ ∀ base : Heap, K.In base → base.Ns mainGlobals mg → FnG true l.prog w K mg base 8 fa fd ["_law_script"] (spLaw K 63) := by
  have e := hfa.symm.trans (PySem.W.mg_of X G a_law)
  cases e
  have wR' : OwnC K CR := ⟨⟨⟨pgR, hdR, poR, saR⟩, haR, hnR, htR, hmR⟩, wiR, wbR, wlR, wtR, wmR, wfiR, wfbR, wflR, wftR, wfsR, wfnR⟩
  have own' : ∀ C ∈ [CR], OwnC K C := by
    intro C hC
    simp at hC
    subst hC
    exact wR'
  let T : Tx K mg := {
    CR := CR
    mR := PySem.W.mg_of X G aR
    cR := ⟨pgR, hdR, poR, saR⟩
    wR := wR'
    own := own'
    ok_Ratio := ok_kCls own' (by simp) (by intro C' h1 h2; simp at h1; exact absurd h1 h2)
    f_is_integer := f_is_integer
    d_is_integer := _
    F_is_integer := ⟨⟨oc_is_integer, od_is_integer, _, kV_is_integer, dc_is_integer, pm_is_integer, an_is_integer, cd_is_integer, ct_is_integer, sl_is_integer, rfl, l_is_integer, c_is_integer, .inl ⟨rfl, rfl⟩, .inl rfl⟩, k_is_integer⟩
    m_is_integer := PySem.W.mg_of X G a_is_integer
    f_is_list := f_is_list
    d_is_list := _
    F_is_list := ⟨⟨oc_is_list, od_is_list, _, kV_is_list, dc_is_list, pm_is_list, an_is_list, cd_is_list, ct_is_list, sl_is_list, rfl, l_is_list, c_is_list, .inl ⟨rfl, rfl⟩, .inl rfl⟩, k_is_list⟩
    m_is_list := PySem.W.mg_of X G a_is_list
    f_digits_of := f_digits_of
    d_digits_of := _
    F_digits_of := ⟨⟨oc_digits_of, od_digits_of, _, kV_digits_of, dc_digits_of, pm_digits_of, an_digits_of, cd_digits_of, ct_digits_of, sl_digits_of, rfl, l_digits_of, c_digits_of, .inl ⟨rfl, rfl⟩, .inl rfl⟩, k_digits_of⟩
    m_digits_of := PySem.W.mg_of X G a_digits_of
    f_divisor_of := f_divisor_of
    d_divisor_of := _
    F_divisor_of := ⟨⟨oc_divisor_of, od_divisor_of, _, kV_divisor_of, dc_divisor_of, pm_divisor_of, an_divisor_of, cd_divisor_of, ct_divisor_of, sl_divisor_of, rfl, l_divisor_of, c_divisor_of, .inl ⟨rfl, rfl⟩, .inl rfl⟩, k_divisor_of⟩
    m_divisor_of := PySem.W.mg_of X G a_divisor_of
    f_Ratio___init__ := f_Ratio___init__
    d_Ratio___init__ := _
    F_Ratio___init__ := ⟨⟨oc_Ratio___init__, od_Ratio___init__, _, kV_Ratio___init__, dc_Ratio___init__, pm_Ratio___init__, an_Ratio___init__, cd_Ratio___init__, ct_Ratio___init__, sl_Ratio___init__, rfl, l_Ratio___init__, c_Ratio___init__, .inr ⟨by simp, t_Ratio___init__, _, [.int 1 tk_Ratio___init__], tn_Ratio___init__, rfl, t1_Ratio___init__, rfl, .cons ⟨_, rfl⟩ .nil⟩, .inl rfl⟩, k_Ratio___init__⟩
    f_Ratio_top := f_Ratio_top
    d_Ratio_top := _
    F_Ratio_top := ⟨⟨oc_Ratio_top, od_Ratio_top, _, kV_Ratio_top, dc_Ratio_top, pm_Ratio_top, an_Ratio_top, cd_Ratio_top, ct_Ratio_top, sl_Ratio_top, rfl, l_Ratio_top, c_Ratio_top, .inl ⟨rfl, rfl⟩, .inl rfl⟩, k_Ratio_top⟩
    f_Ratio_bottom := f_Ratio_bottom
    d_Ratio_bottom := _
    F_Ratio_bottom := ⟨⟨oc_Ratio_bottom, od_Ratio_bottom, _, kV_Ratio_bottom, dc_Ratio_bottom, pm_Ratio_bottom, an_Ratio_bottom, cd_Ratio_bottom, ct_Ratio_bottom, sl_Ratio_bottom, rfl, l_Ratio_bottom, c_Ratio_bottom, .inl ⟨rfl, rfl⟩, .inl rfl⟩, k_Ratio_bottom⟩
    f_Ratio_sign := f_Ratio_sign
    d_Ratio_sign := _
    F_Ratio_sign := ⟨⟨oc_Ratio_sign, od_Ratio_sign, _, kV_Ratio_sign, dc_Ratio_sign, pm_Ratio_sign, an_Ratio_sign, cd_Ratio_sign, ct_Ratio_sign, sl_Ratio_sign, rfl, l_Ratio_sign, c_Ratio_sign, .inl ⟨rfl, rfl⟩, .inl rfl⟩, k_Ratio_sign⟩
    f_Ratio_is_whole := f_Ratio_is_whole
    d_Ratio_is_whole := _
    F_Ratio_is_whole := ⟨⟨oc_Ratio_is_whole, od_Ratio_is_whole, _, kV_Ratio_is_whole, dc_Ratio_is_whole, pm_Ratio_is_whole, an_Ratio_is_whole, cd_Ratio_is_whole, ct_Ratio_is_whole, sl_Ratio_is_whole, rfl, l_Ratio_is_whole, c_Ratio_is_whole, .inl ⟨rfl, rfl⟩, .inl rfl⟩, k_Ratio_is_whole⟩
    f_told_pair := f_told_pair
    d_told_pair := _
    F_told_pair := ⟨⟨oc_told_pair, od_told_pair, _, kV_told_pair, dc_told_pair, pm_told_pair, an_told_pair, cd_told_pair, ct_told_pair, sl_told_pair, rfl, l_told_pair, c_told_pair, .inl ⟨rfl, rfl⟩, .inl rfl⟩, k_told_pair⟩
    m_told_pair := PySem.W.mg_of X G a_told_pair
    f_Ratio___add__ := f_Ratio___add__
    d_Ratio___add__ := _
    F_Ratio___add__ := ⟨⟨oc_Ratio___add__, od_Ratio___add__, _, kV_Ratio___add__, dc_Ratio___add__, pm_Ratio___add__, an_Ratio___add__, cd_Ratio___add__, ct_Ratio___add__, sl_Ratio___add__, rfl, l_Ratio___add__, c_Ratio___add__, .inl ⟨rfl, rfl⟩, .inl rfl⟩, k_Ratio___add__⟩
    f_Ratio___radd__ := f_Ratio___radd__
    d_Ratio___radd__ := _
    F_Ratio___radd__ := ⟨⟨oc_Ratio___radd__, od_Ratio___radd__, _, kV_Ratio___radd__, dc_Ratio___radd__, pm_Ratio___radd__, an_Ratio___radd__, cd_Ratio___radd__, ct_Ratio___radd__, sl_Ratio___radd__, rfl, l_Ratio___radd__, c_Ratio___radd__, .inl ⟨rfl, rfl⟩, .inl rfl⟩, k_Ratio___radd__⟩
    f_Ratio___sub__ := f_Ratio___sub__
    d_Ratio___sub__ := _
    F_Ratio___sub__ := ⟨⟨oc_Ratio___sub__, od_Ratio___sub__, _, kV_Ratio___sub__, dc_Ratio___sub__, pm_Ratio___sub__, an_Ratio___sub__, cd_Ratio___sub__, ct_Ratio___sub__, sl_Ratio___sub__, rfl, l_Ratio___sub__, c_Ratio___sub__, .inl ⟨rfl, rfl⟩, .inl rfl⟩, k_Ratio___sub__⟩
    f_Ratio___rsub__ := f_Ratio___rsub__
    d_Ratio___rsub__ := _
    F_Ratio___rsub__ := ⟨⟨oc_Ratio___rsub__, od_Ratio___rsub__, _, kV_Ratio___rsub__, dc_Ratio___rsub__, pm_Ratio___rsub__, an_Ratio___rsub__, cd_Ratio___rsub__, ct_Ratio___rsub__, sl_Ratio___rsub__, rfl, l_Ratio___rsub__, c_Ratio___rsub__, .inl ⟨rfl, rfl⟩, .inl rfl⟩, k_Ratio___rsub__⟩
    f_Ratio___mul__ := f_Ratio___mul__
    d_Ratio___mul__ := _
    F_Ratio___mul__ := ⟨⟨oc_Ratio___mul__, od_Ratio___mul__, _, kV_Ratio___mul__, dc_Ratio___mul__, pm_Ratio___mul__, an_Ratio___mul__, cd_Ratio___mul__, ct_Ratio___mul__, sl_Ratio___mul__, rfl, l_Ratio___mul__, c_Ratio___mul__, .inl ⟨rfl, rfl⟩, .inl rfl⟩, k_Ratio___mul__⟩
    f_Ratio___rmul__ := f_Ratio___rmul__
    d_Ratio___rmul__ := _
    F_Ratio___rmul__ := ⟨⟨oc_Ratio___rmul__, od_Ratio___rmul__, _, kV_Ratio___rmul__, dc_Ratio___rmul__, pm_Ratio___rmul__, an_Ratio___rmul__, cd_Ratio___rmul__, ct_Ratio___rmul__, sl_Ratio___rmul__, rfl, l_Ratio___rmul__, c_Ratio___rmul__, .inl ⟨rfl, rfl⟩, .inl rfl⟩, k_Ratio___rmul__⟩
    f_Ratio___neg__ := f_Ratio___neg__
    d_Ratio___neg__ := _
    F_Ratio___neg__ := ⟨⟨oc_Ratio___neg__, od_Ratio___neg__, _, kV_Ratio___neg__, dc_Ratio___neg__, pm_Ratio___neg__, an_Ratio___neg__, cd_Ratio___neg__, ct_Ratio___neg__, sl_Ratio___neg__, rfl, l_Ratio___neg__, c_Ratio___neg__, .inl ⟨rfl, rfl⟩, .inl rfl⟩, k_Ratio___neg__⟩
    f_Ratio_over := f_Ratio_over
    d_Ratio_over := _
    F_Ratio_over := ⟨⟨oc_Ratio_over, od_Ratio_over, _, kV_Ratio_over, dc_Ratio_over, pm_Ratio_over, an_Ratio_over, cd_Ratio_over, ct_Ratio_over, sl_Ratio_over, rfl, l_Ratio_over, c_Ratio_over, .inl ⟨rfl, rfl⟩, .inl rfl⟩, k_Ratio_over⟩
    f_Ratio_size := f_Ratio_size
    d_Ratio_size := _
    F_Ratio_size := ⟨⟨oc_Ratio_size, od_Ratio_size, _, kV_Ratio_size, dc_Ratio_size, pm_Ratio_size, an_Ratio_size, cd_Ratio_size, ct_Ratio_size, sl_Ratio_size, rfl, l_Ratio_size, c_Ratio_size, .inl ⟨rfl, rfl⟩, .inl rfl⟩, k_Ratio_size⟩
    f_Ratio_is_below := f_Ratio_is_below
    d_Ratio_is_below := _
    F_Ratio_is_below := ⟨⟨oc_Ratio_is_below, od_Ratio_is_below, _, kV_Ratio_is_below, dc_Ratio_is_below, pm_Ratio_is_below, an_Ratio_is_below, cd_Ratio_is_below, ct_Ratio_is_below, sl_Ratio_is_below, rfl, l_Ratio_is_below, c_Ratio_is_below, .inl ⟨rfl, rfl⟩, .inl rfl⟩, k_Ratio_is_below⟩
    f_Ratio_is_at_most := f_Ratio_is_at_most
    d_Ratio_is_at_most := _
    F_Ratio_is_at_most := ⟨⟨oc_Ratio_is_at_most, od_Ratio_is_at_most, _, kV_Ratio_is_at_most, dc_Ratio_is_at_most, pm_Ratio_is_at_most, an_Ratio_is_at_most, cd_Ratio_is_at_most, ct_Ratio_is_at_most, sl_Ratio_is_at_most, rfl, l_Ratio_is_at_most, c_Ratio_is_at_most, .inl ⟨rfl, rfl⟩, .inl rfl⟩, k_Ratio_is_at_most⟩
    f_Ratio___eq__ := f_Ratio___eq__
    d_Ratio___eq__ := _
    F_Ratio___eq__ := ⟨⟨oc_Ratio___eq__, od_Ratio___eq__, _, kV_Ratio___eq__, dc_Ratio___eq__, pm_Ratio___eq__, an_Ratio___eq__, cd_Ratio___eq__, ct_Ratio___eq__, sl_Ratio___eq__, rfl, l_Ratio___eq__, c_Ratio___eq__, .inl ⟨rfl, rfl⟩, .inl rfl⟩, k_Ratio___eq__⟩
    f_Ratio___str__ := f_Ratio___str__
    d_Ratio___str__ := _
    F_Ratio___str__ := ⟨⟨oc_Ratio___str__, od_Ratio___str__, _, kV_Ratio___str__, dc_Ratio___str__, pm_Ratio___str__, an_Ratio___str__, cd_Ratio___str__, ct_Ratio___str__, sl_Ratio___str__, rfl, l_Ratio___str__, c_Ratio___str__, .inl ⟨rfl, rfl⟩, .inl rfl⟩, k_Ratio___str__⟩
    f_Ratio___repr__ := f_Ratio___repr__
    d_Ratio___repr__ := _
    F_Ratio___repr__ := ⟨⟨oc_Ratio___repr__, od_Ratio___repr__, _, kV_Ratio___repr__, dc_Ratio___repr__, pm_Ratio___repr__, an_Ratio___repr__, cd_Ratio___repr__, ct_Ratio___repr__, sl_Ratio___repr__, rfl, l_Ratio___repr__, c_Ratio___repr__, .inl ⟨rfl, rfl⟩, .inl rfl⟩, k_Ratio___repr__⟩
    f_is_number := f_is_number
    d_is_number := _
    F_is_number := ⟨⟨oc_is_number, od_is_number, _, kV_is_number, dc_is_number, pm_is_number, an_is_number, cd_is_number, ct_is_number, sl_is_number, rfl, l_is_number, c_is_number, .inl ⟨rfl, rfl⟩, .inl rfl⟩, k_is_number⟩
    m_is_number := PySem.W.mg_of X G a_is_number
    f_ratio_of := f_ratio_of
    d_ratio_of := _
    F_ratio_of := ⟨⟨oc_ratio_of, od_ratio_of, _, kV_ratio_of, dc_ratio_of, pm_ratio_of, an_ratio_of, cd_ratio_of, ct_ratio_of, sl_ratio_of, rfl, l_ratio_of, c_ratio_of, .inl ⟨rfl, rfl⟩, .inl rfl⟩, k_ratio_of⟩
    m_ratio_of := PySem.W.mg_of X G a_ratio_of
    f_want_number := f_want_number
    d_want_number := _
    F_want_number := ⟨⟨oc_want_number, od_want_number, _, kV_want_number, dc_want_number, pm_want_number, an_want_number, cd_want_number, ct_want_number, sl_want_number, rfl, l_want_number, c_want_number, .inl ⟨rfl, rfl⟩, .inl rfl⟩, k_want_number⟩
    m_want_number := PySem.W.mg_of X G a_want_number
    f_total_of := f_total_of
    d_total_of := _
    F_total_of := ⟨⟨oc_total_of, od_total_of, _, kV_total_of, dc_total_of, pm_total_of, an_total_of, cd_total_of, ct_total_of, sl_total_of, rfl, l_total_of, c_total_of, .inl ⟨rfl, rfl⟩, .inl rfl⟩, k_total_of⟩
    m_total_of := PySem.W.mg_of X G a_total_of
    f_Ratio_total := f_Ratio_total
    d_Ratio_total := _
    F_Ratio_total := ⟨⟨oc_Ratio_total, od_Ratio_total, _, kV_Ratio_total, dc_Ratio_total, pm_Ratio_total, an_Ratio_total, cd_Ratio_total, ct_Ratio_total, sl_Ratio_total, rfl, l_Ratio_total, c_Ratio_total, .inl ⟨rfl, rfl⟩, .inl rfl⟩, k_Ratio_total⟩
    f__law_pot := f__law_pot
    d__law_pot := _
    F__law_pot := ⟨⟨oc__law_pot, od__law_pot, _, kV__law_pot, dc__law_pot, pm__law_pot, an__law_pot, cd__law_pot, ct__law_pot, sl__law_pot, rfl, l__law_pot, c__law_pot, .inl ⟨rfl, rfl⟩, .inl rfl⟩, k__law_pot⟩
    m__law_pot := PySem.W.mg_of X G a__law_pot
    f__law_draw := f__law_draw
    d__law_draw := _
    F__law_draw := ⟨⟨oc__law_draw, od__law_draw, _, kV__law_draw, dc__law_draw, pm__law_draw, an__law_draw, cd__law_draw, ct__law_draw, sl__law_draw, rfl, l__law_draw, c__law_draw, .inl ⟨rfl, rfl⟩, .inl rfl⟩, k__law_draw⟩
    m__law_draw := PySem.W.mg_of X G a__law_draw
    f__law_pick := f__law_pick
    d__law_pick := _
    F__law_pick := ⟨⟨oc__law_pick, od__law_pick, _, kV__law_pick, dc__law_pick, pm__law_pick, an__law_pick, cd__law_pick, ct__law_pick, sl__law_pick, rfl, l__law_pick, c__law_pick, .inl ⟨rfl, rfl⟩, .inl rfl⟩, k__law_pick⟩
    m__law_pick := PySem.W.mg_of X G a__law_pick
    f__law_top := f__law_top
    d__law_top := _
    F__law_top := ⟨⟨oc__law_top, od__law_top, _, kV__law_top, dc__law_top, pm__law_top, an__law_top, cd__law_top, ct__law_top, sl__law_top, rfl, l__law_top, c__law_top, .inl ⟨rfl, rfl⟩, .inl rfl⟩, k__law_top⟩
    m__law_top := PySem.W.mg_of X G a__law_top
    f__law_whole := f__law_whole
    d__law_whole := _
    F__law_whole := ⟨⟨oc__law_whole, od__law_whole, _, kV__law_whole, dc__law_whole, pm__law_whole, an__law_whole, cd__law_whole, ct__law_whole, sl__law_whole, rfl, l__law_whole, c__law_whole, .inl ⟨rfl, rfl⟩, .inl rfl⟩, k__law_whole⟩
    m__law_whole := PySem.W.mg_of X G a__law_whole
    f__law_pair := f__law_pair
    d__law_pair := _
    F__law_pair := ⟨⟨oc__law_pair, od__law_pair, _, kV__law_pair, dc__law_pair, pm__law_pair, an__law_pair, cd__law_pair, ct__law_pair, sl__law_pair, rfl, l__law_pair, c__law_pair, .inl ⟨rfl, rfl⟩, .inl rfl⟩, k__law_pair⟩
    m__law_pair := PySem.W.mg_of X G a__law_pair
    f__law_common := f__law_common
    d__law_common := _
    F__law_common := ⟨⟨oc__law_common, od__law_common, _, kV__law_common, dc__law_common, pm__law_common, an__law_common, cd__law_common, ct__law_common, sl__law_common, rfl, l__law_common, c__law_common, .inl ⟨rfl, rfl⟩, .inl rfl⟩, k__law_common⟩
    m__law_common := PySem.W.mg_of X G a__law_common
    f__law_is := f__law_is
    d__law_is := _
    F__law_is := ⟨⟨oc__law_is, od__law_is, _, kV__law_is, dc__law_is, pm__law_is, an__law_is, cd__law_is, ct__law_is, sl__law_is, rfl, l__law_is, c__law_is, .inl ⟨rfl, rfl⟩, .inl rfl⟩, k__law_is⟩
    m__law_is := PySem.W.mg_of X G a__law_is
    f__law_two_right := f__law_two_right
    d__law_two_right := _
    F__law_two_right := ⟨⟨oc__law_two_right, od__law_two_right, _, kV__law_two_right, dc__law_two_right, pm__law_two_right, an__law_two_right, cd__law_two_right, ct__law_two_right, sl__law_two_right, rfl, l__law_two_right, c__law_two_right, .inl ⟨rfl, rfl⟩, .inl rfl⟩, k__law_two_right⟩
    m__law_two_right := PySem.W.mg_of X G a__law_two_right
    f__law_whole_right := f__law_whole_right
    d__law_whole_right := _
    F__law_whole_right := ⟨⟨oc__law_whole_right, od__law_whole_right, _, kV__law_whole_right, dc__law_whole_right, pm__law_whole_right, an__law_whole_right, cd__law_whole_right, ct__law_whole_right, sl__law_whole_right, rfl, l__law_whole_right, c__law_whole_right, .inl ⟨rfl, rfl⟩, .inl rfl⟩, k__law_whole_right⟩
    m__law_whole_right := PySem.W.mg_of X G a__law_whole_right
    f__law_total_right := f__law_total_right
    d__law_total_right := _
    F__law_total_right := ⟨⟨oc__law_total_right, od__law_total_right, _, kV__law_total_right, dc__law_total_right, pm__law_total_right, an__law_total_right, cd__law_total_right, ct__law_total_right, sl__law_total_right, rfl, l__law_total_right, c__law_total_right, .inl ⟨rfl, rfl⟩, .inl rfl⟩, k__law_total_right⟩
    m__law_total_right := PySem.W.mg_of X G a__law_total_right
    f_law := fa
    d_law := _
    F_law := ⟨⟨oc_law, od_law, _, kV_law, dc_law, pm_law, an_law, cd_law, ct_law, sl_law, rfl, l_law, c_law, .inl ⟨rfl, rfl⟩, .inl rfl⟩, k_law⟩
    m_law := PySem.W.mg_of X G a_law
    kR := ⟨mkR, a_Ratio___init__, i_Ratio___init__, kpR⟩
    n_own_top := n_own_top
    n_own_bottom := n_own_bottom
    pa_top := p_Ratio_top
    p_top := ⟨a_Ratio_top, e_Ratio_top, g_Ratio_top, ⟨_, b_Ratio_top⟩⟩
    pa_bottom := p_Ratio_bottom
    p_bottom := ⟨a_Ratio_bottom, e_Ratio_bottom, g_Ratio_bottom, ⟨_, b_Ratio_bottom⟩⟩
    pa_sign := p_Ratio_sign
    p_sign := ⟨a_Ratio_sign, e_Ratio_sign, g_Ratio_sign, ⟨_, b_Ratio_sign⟩⟩
    pa_is_whole := p_Ratio_is_whole
    p_is_whole := ⟨a_Ratio_is_whole, e_Ratio_is_whole, g_Ratio_is_whole, ⟨_, b_Ratio_is_whole⟩⟩
    t_over := ⟨a_Ratio_over, i_Ratio_over, k_Ratio_over⟩
    t_size := ⟨a_Ratio_size, i_Ratio_size, k_Ratio_size⟩
    t_is_below := ⟨a_Ratio_is_below, i_Ratio_is_below, k_Ratio_is_below⟩
    t_is_at_most := ⟨a_Ratio_is_at_most, i_Ratio_is_at_most, k_Ratio_is_at_most⟩
    mcR := .type "type"
    rdR := ⟨g_Ratio_total, i_Ratio_total⟩
    pc_total := p_Ratio_total
    cm_total := ⟨a_Ratio_total, ⟨_, b_Ratio_total⟩, e_Ratio_total⟩
    o_Add := ⟨sf, a_Ratio___add__, i_Ratio___add__, a_Ratio___radd__, i_Ratio___radd__, ⟨_, o1_add⟩, ⟨_, o2_add⟩, s1, s2⟩
    o_Sub := ⟨sf, a_Ratio___sub__, i_Ratio___sub__, a_Ratio___rsub__, i_Ratio___rsub__, ⟨_, o1_sub⟩, ⟨_, o2_sub⟩, s1, s2⟩
    o_Mult := ⟨sf, a_Ratio___mul__, i_Ratio___mul__, a_Ratio___rmul__, i_Ratio___rmul__, ⟨_, o1_mul⟩, ⟨_, o2_mul⟩, s1, s2⟩
    g_neg := a_Ratio___neg__
    gf_neg := i_Ratio___neg__
    g_eq := a_Ratio___eq__
    gf_eq := i_Ratio___eq__
    g_str := a_Ratio___str__
    gf_str := i_Ratio___str__
    g_repr := a_Ratio___repr__
    gf_repr := i_Ratio___repr__
    neR := neR
    soR := soR
    niR := niR
    nmR := nmR
    v_PART := .int 1000000000000000000000000000000000000000000000000000000000000 tok_PART
    m_PART := PySem.W.mg_of X G a_PART
    r_PART := ⟨_, rfl⟩
    b_isinstance := PySem.W.mg_none_of X G b_isinstance
    b_int := PySem.W.mg_none_of X G b_int
    b_bool := PySem.W.mg_none_of X G b_bool
    b_list := PySem.W.mg_none_of X G b_list
    b_tuple := PySem.W.mg_none_of X G b_tuple
    b_str := PySem.W.mg_none_of X G b_str
    b_repr := PySem.W.mg_none_of X G b_repr
    b_abs := PySem.W.mg_none_of X G b_abs
    b_max := PySem.W.mg_none_of X G b_max
    b_len := PySem.W.mg_none_of X G b_len
    b_divmod := PySem.W.mg_none_of X G b_divmod
    b_all := PySem.W.mg_none_of X G b_all
    b_range := PySem.W.mg_none_of X G b_range
    m_gcd := PySem.W.mg_of X G a_gcd
  }
  exact ⟨_, fun s v => FunD.bindsA (ps := ["_law_script"]) T.F_law (fun _ _ _ _ _ _ us hl => match us, hl with | [_], _ => rfl) s [v] rfl, fun base _ _ => ok_law T (math CR)⟩
end G11
end
section
set_option linter.all false
set_option maxRecDepth 100000
set_option exponentiation.threshold 20000
namespace G11
open PySem VS
/-- the second number of the pot -/
def Yk (y : Int) : Prop := 0 ≤ y ∧ y < 2147483648
theorem mul_small {a b : Int} (ha : a.natAbs < 2 ^ 64) (hb : b.natAbs < 2 ^ 64) : cMul a b = true := sm_mul' ha hb
theorem draw_ok (CR : Addr) {n x y : Int} (hn : 0 < n) (hl : n.natAbs.log2 < 9000) (hy : Yk y) :
    ∃ d x' y', c__law_draw CR [.pot, .int n] (some (x, y)) = some (.int d, some (x', y')) ∧ 0 ≤ d ∧ d < n ∧ Yk y' := by
  obtain ⟨y0, y1⟩ := hy
  by_cases hx : 0 < x
  · refine ⟨x % n, x / n, y, ?_, Int.emod_nonneg _ (by omega), Int.emod_lt_of_pos _ hn, y0, y1⟩
    simp [c__law_draw, fnB, b__law_draw, atD, gSeq, gIf, eT, e2, ePot, eC, gGt, gI, hx, gAsg, eL, aCons, aNil, eVarB, gDivmod, hn, hl, tgTup, tgCons, tgNil, tgPot, tgName, gRet, eVar]
  · have m1 : cMul y 48271 = true := mul_small (by omega) (by decide)
    have c1 : cMod (y * 48271 + 18521) 2147483587 = true := decide_eq_true (by decide)
    let z := (y * 48271 + 18521).fmod 2147483587
    have hz : (y * 48271 + 18521).fmod 2147483587 = z := rfl
    have z0 : 0 ≤ z ∧ z < 2147483587 := by
      rw [← hz, Int.fmod_eq_emod_of_nonneg _ (by decide)]
      exact ⟨Int.emod_nonneg _ (by decide), Int.emod_lt_of_pos _ (by decide)⟩
    have m2 : cMul z z = true := mul_small (by omega) (by omega)
    have c2 : cMod (z * z) 2147483549 = true := decide_eq_true (by decide)
    have c3 : cDiv ((z * z).fmod 2147483549) 13 = true := decide_eq_true ⟨by decide, by decide⟩
    have c4 : cMod (((z * z).fmod 2147483549).fdiv 13) n = true := decide_eq_true (by omega)
    refine ⟨(((z * z).fmod 2147483549).fdiv 13).fmod n, x, z, ?_, ?_, ?_, by omega, by omega⟩
    · simp [c__law_draw, fnB, b__law_draw, atD, gSeq, gIf, eT, e2, ePot, eC, gGt, gI, hx, gAsg, eL, aCons, aNil, eVarB, gInt, gMul, gAdd, m1, gMod, c1, hz, tgPot, gRet, gNil, m2, c2, gFdiv, c3, c4]
    · rw [Int.fmod_eq_emod_of_nonneg _ (by omega)]
      exact Int.emod_nonneg _ (by omega)
    · rw [Int.fmod_eq_emod_of_nonneg _ (by omega)]
      exact Int.emod_lt_of_pos _ hn
end G11
end
section
set_option linter.all false
set_option maxRecDepth 100000
set_option exponentiation.threshold 20000
namespace G11
open PySem VS
def potR : S → Option (D × Pt) := qRet (eLst (aCons (eL (gI2 fun i j => if j > i then j else i) (aCons (eC (.int 0)) (aCons (e2 gSub (eVarB 2) (e2 gPow (eC (.int 10)) (eC (.int 18)))) aNil))) (aCons (e2 gAdd (e2 gMod (eL gInt (aCons (e2 gAdd (e2 gMul (e2 gMod (eL gInt (aCons (eVarB 2) aNil)) (eC (.int 2147483549))) (e2 gAdd (e2 gMul (eC (.int 2)) (eVarB 1)) (eC (.int 491)))) (eC (.int 1277))) aNil)) (eC (.int 2147483543))) (eC (.int 1))) aNil)))
theorem pot_cell (CR : Addr) (c : Int) (s : S) (ns : List Int) (hs : s.sl = [.sh (.scr ns), .sh (.int 0), .sh (.int c)]) (hc : 0 ≤ c) :
    ∃ x y, potR s = some (.lst [.int x, .int y], s.pot) ∧ Yk y := by
  have c0 : cMod c 2147483549 = true := decide_eq_true (by decide)
  let u := c.fmod 2147483549
  have hu : c.fmod 2147483549 = u := rfl
  have u0 : 0 ≤ u ∧ u < 2147483549 := by
    rw [← hu, Int.fmod_eq_emod_of_nonneg _ (by decide)]
    exact ⟨Int.emod_nonneg _ (by decide), Int.emod_lt_of_pos _ (by decide)⟩
  have m1 : cMul u 491 = true := mul_small (by omega) (by decide)
  have m0 : cMul 2 0 = true := mul_small (by decide) (by decide)
  have c1 : cMod (u * 491 + 1277) 2147483543 = true := decide_eq_true (by decide)
  have p1 : cPow 10 18 = true := decide_eq_true (by decide)
  refine ⟨if c - 10 ^ (18 : Int).toNat > 0 then c - 10 ^ (18 : Int).toNat else 0, (u * 491 + 1277).fmod 2147483543 + 1, ?_, ?_⟩
  · simp [potR, qRet, eLst, aCons, aNil, eL, e2, eC, eVarB, hs, gSub, gI, gPow, p1, gI2, gInt, gMod, c0, hu, gMul, m0, gAdd, m1, c1, LIM]
  · have h : 0 ≤ (u * 491 + 1277).fmod 2147483543 ∧ (u * 491 + 1277).fmod 2147483543 < 2147483543 := by
      rw [Int.fmod_eq_emod_of_nonneg _ (by decide)]
      exact ⟨Int.emod_nonneg _ (by decide), Int.emod_lt_of_pos _ (by decide)⟩
    constructor <;> omega
theorem pot_ok (CR : Addr) (ns : List Int) : ∃ x y, c__law_pot CR [.scr ns, .int 0] none = some (.lst [.int x, .int y], none) ∧ Yk y := by
  have m0 : cMul 839 0 = true := mul_small (by decide) (by decide)
  cases ns with
  | nil =>
    obtain ⟨x, y, h, hy⟩ := pot_cell CR 569 ⟨[.sh (.scr []), .sh (.int 0), .sh (.int 569)], none⟩ [] rfl (by decide)
    refine ⟨x, y, ?_, hy⟩
    rw [← h]
    simp [c__law_pot, fnR, b__law_pot, potR, qSeq, gAsg, e2, eC, eVarB, atD, gMul, gI, m0, gAdd, tgName, gIf, eT, gLt, eL, gLen, aCons, aNil, gNil]
  | cons n ns =>
    obtain ⟨x, y, h, hy⟩ := pot_cell CR (if n < 0 then -n else n) ⟨[.sh (.scr (n :: ns)), .sh (.int 0), .sh (.int (if n < 0 then -n else n))], none⟩ (n :: ns) rfl (by split <;> omega)
    refine ⟨x, y, ?_, hy⟩
    rw [← h]
    have hl : (0 : Int) < (ns.length : Int) + 1 := by omega
    simp [c__law_pot, fnR, b__law_pot, potR, qSeq, gAsg, e2, eC, eVarB, atD, gMul, gI, m0, gAdd, tgName, gIf, eT, gLt, eL, gLen, aCons, aNil, gNil, hl, gSeq, gI1, gIx, L2.atI, L2.ixN]
theorem e_law_ok (CR : Addr) (ns : List Int) : ∃ x y, e_law CR (atD 6 [.scr ns] none) = some (.lst [.int x, .int y], atD 6 [.scr ns] none) ∧ Yk y := by
  obtain ⟨x, y, h, hy⟩ := pot_ok CR ns
  refine ⟨x, y, ?_, hy⟩
  simp [e_law, eCall, aCons, aNil, eVar, eC, atD, pick, h]
end G11
end
section
set_option linter.all false
set_option maxRecDepth 100000
set_option exponentiation.threshold 20000
namespace G11
open PySem VS
theorem atI_ok {ds : List D} {i : Int} (h0 : 0 ≤ i) (h1 : i < ds.length) : ∃ d, L2.atI ds i = some d ∧ d ∈ ds := by
  obtain ⟨n, rfl⟩ := Int.eq_ofNat_of_zero_le h0
  have hn : n < ds.length := by omega
  refine ⟨ds[n], ?_, List.getElem_mem hn⟩
  simp [L2.atI, L2.ixN, hn]
theorem pick_ok (CR : Addr) {ds : List D} {x y : Int} (hd : 0 < ds.length) (hl : ds.length < 1000) (hy : Yk y) :
    ∃ d x' y', c__law_pick CR [.pot, .lst ds] (some (x, y)) = some (d, some (x', y')) ∧ d ∈ ds ∧ Yk y' := by
  obtain ⟨i, x', y', h, h0, h1, hy'⟩ := draw_ok CR (n := (ds.length : Int)) (x := x) (by omega) (by
    rw [Int.natAbs_natCast, Nat.log2_lt (by omega)]
    have : (1000 : Nat) < 2 ^ 10 := by decide
    have : (2 : Nat) ^ 10 ≤ 2 ^ 9000 := Nat.pow_le_pow_right (by decide) (by decide)
    omega) hy
  obtain ⟨d, hd1, hd2⟩ := atI_ok h0 h1
  refine ⟨d, x', y', ?_, hd2, hy'⟩
  simp [c__law_pick, fnB, b__law_pick, atD, gSeq, gRet, e2, eVarB, eCall, aCons, aNil, eVar, eL, gLen, pick, h, gIx, hd1]
theorem whole_ok (CR : Addr) {x y : Int} (hy : Yk y) : ∃ w x' y', c__law_whole CR [.pot] (some (x, y)) = some (.int w, some (x', y')) ∧ w.natAbs < 1000001 ∧ Yk y' := by
  obtain ⟨d, x1, y1, h, h0, h1, hy1⟩ := draw_ok CR (n := 2) (x := x) (by decide) (by decide) hy
  by_cases hd : d = 0
  · obtain ⟨d2, x2, y2, h2, h20, h21, hy2⟩ := draw_ok CR (n := 25) (x := x1) (by decide) (by decide) hy1
    refine ⟨d2 - 12, x2, y2, ?_, by omega, hy2⟩
    subst hd
    simp [c__law_whole, fnB, b__law_whole, atD, gSeq, gRet, eIf, eT, e2, eCall, aCons, aNil, eVar, eC, pick, h, gSEq, outB, h2, gSub, gI]
  · obtain ⟨d2, x2, y2, h2, h20, h21, hy2⟩ := draw_ok CR (n := 1999999) (x := x1) (by decide) (by decide) hy1
    refine ⟨d2 - 999999, x2, y2, ?_, by omega, hy2⟩
    simp [c__law_whole, fnB, b__law_whole, atD, gSeq, gRet, eIf, eT, e2, eCall, aCons, aNil, eVar, eC, pick, h, gSEq, outB, hd, h2, gSub, gI]
def topB (CR : Addr) : S → Option Fl := gSeq (gAsg (e2 gAdd (e2 gMul (eVarB 2) (e2 gPow (eC (.int 10)) (eC (.int 9)))) (eCall (c__law_draw CR) [0, 1] [] (aCons (eVar 0) (aCons (e2 gPow (eC (.int 10)) (eC (.int 9))) aNil)))) (tgName 2)) gNil
theorem top_loop (CR : Addr) (w : Sl) : ∀ (ds : List D) (k : Nat) (f x y : Int) (q : Sl), k + ds.length ≤ 5 → 0 ≤ f → f < 10 ^ (9 * k) → Yk y →
    ∃ f' x' y' q', gLoop (tgName 3) (topB CR) ds ⟨[.sh .pot, w, .sh (.int f), q], some (x, y)⟩ = some (.nx ⟨[.sh .pot, w, .sh (.int f'), q'], some (x', y')⟩) ∧ 0 ≤ f' ∧ f' < 10 ^ (9 * (k + ds.length)) ∧ Yk y'
  | [], k, f, x, y, q, hk, h0, h1, hy => ⟨f, x, y, q, rfl, h0, h1, hy⟩
  | d :: ds, k, f, x, y, q, hk, h0, h1, hy => by
    obtain ⟨e, x1, y1, h, e0, e1, hy1⟩ := draw_ok CR (n := 1000000000) (x := x) (by decide) (by decide) hy
    have p1 : cPow 10 9 = true := decide_eq_true (by decide)
    have hb : f < 10 ^ 45 := by
      have : (10:Int) ^ (9 * k) ≤ 10 ^ 45 := by
        have hh : 9 * k ≤ 45 := by omega
        have := Nat.pow_le_pow_right (n := 10) (by decide) hh
        exact_mod_cast this
      omega
    have m1 : cMul f 1000000000 = true := sm_mul' (n := 160) (m := 64) (by
      have : (10:Int) ^ 45 < 2 ^ 160 := by decide
      omega) (by decide) (by decide)
    have h2 : f * 1000000000 + e < 10 ^ (9 * (k + 1)) := by
      rw [Nat.mul_add, Int.pow_add]
      have : (10:Int) ^ (9 * 1) = 1000000000 := by decide
      rw [this]
      generalize (10:Int) ^ (9 * k) = z at h1
      omega
    have h3 : 0 ≤ f * 1000000000 + e := by omega
    simp only [List.length_cons] at hk
    obtain ⟨f', x', y', q', r1, r2, r3, r4⟩ := top_loop CR w ds (k + 1) (f * 1000000000 + e) x1 y1 (.sh d) (by omega) h3 h2 hy1
    refine ⟨f', x', y', q', ?_, r2, by rw [List.length_cons, show k + (ds.length + 1) = k + 1 + ds.length from by omega]; exact r3, r4⟩
    rw [← r1]
    simp [gLoop, tgName, topB, gSeq, gAsg, e2, eVarB, gPow, gI, eC, p1, gMul, m1, eCall, aCons, aNil, eVar, pick, h, gAdd, gNil]
end G11
end
section
set_option linter.all false
set_option maxRecDepth 100000
set_option exponentiation.threshold 20000
namespace G11
open PySem VS
def topR (CR : Addr) : S → Option Fl := (gSeq (gRet (eIf (eT (e2 (gSEq false) (eCall (c__law_draw CR) [0, 1] [] (aCons (eVar 0) (aCons (eC (.int 2)) aNil))) (eC (.int 0)))) (eVar 2) (e2 gSub (eC (.int 0)) (eVarB 2))))
    gNil)
theorem top_split (CR : Addr) : b__law_top CR = gSeq (gAsg (eCall (c__law_draw CR) [0, 1] [] (aCons (eVar 0) (aCons (eC (.int 5)) aNil))) (tgName 1)) (gSeq (gIf (eT (e2 gLt (eVarB 1) (eC (.int 3)))) (gSeq (gRet (e2 gSub (eCall (c__law_draw CR) [0, 1] [] (aCons (eVar 0) (aCons (eC (.int 25)) aNil))) (eC (.int 12))))
    gNil) gNil) (gSeq (gAsg (eC (.int 0)) (tgName 2)) (gSeq (gFor (iR1 (aCons (eIf (eT (e2 (gSEq false) (eVarB 1) (eC (.int 3)))) (eC (.int 3)) (eC (.int 5))) aNil)) (tgName 3) (topB CR)) (topR CR)))) := rfl
theorem topR_ok (CR : Addr) (w q' : Sl) {f' x' y' : Int} (f0 : 0 ≤ f') (f1 : f' < 10 ^ 45) (hy' : Yk y') : ∃ t x2 y2, topR CR ⟨[.sh .pot, w, .sh (.int f'), q'], some (x', y')⟩ = some (.rt (.int t) (some (x2, y2))) ∧ -(10 ^ 45) < t ∧ t < 10 ^ 45 ∧ Yk y2 := by
  obtain ⟨d, x2, y2, h2, h20, h21, hy2⟩ := draw_ok CR (n := 2) (x := x') (by decide) (by decide) hy'
  by_cases hd : d = 0
  · subst hd
    refine ⟨f', x2, y2, ?_, by omega, by omega, hy2⟩
    simp [topR, gSeq, gRet, eIf, eT, e2, eCall, aCons, aNil, eVar, eC, pick, h2, gSEq, outB]
  · refine ⟨0 - f', x2, y2, ?_, by omega, by omega, hy2⟩
    simp [topR, gSeq, gRet, eIf, eT, e2, eCall, aCons, aNil, eVar, eC, pick, h2, gSEq, outB, hd, gSub, gI, eVarB]
theorem top_ok (CR : Addr) {x y : Int} (hy : Yk y) : ∃ t x' y', c__law_top CR [.pot] (some (x, y)) = some (.int t, some (x', y')) ∧ -(10 ^ 45) < t ∧ t < 10 ^ 45 ∧ Yk y' := by
  obtain ⟨w, x1, y1, h, w0, w1, hy1⟩ := draw_ok CR (n := 5) (x := x) (by decide) (by decide) hy
  have big : (1000 : Int) < 10 ^ 45 := by decide
  by_cases hw : w < 3
  · obtain ⟨d2, x2, y2, h2, h20, h21, hy2⟩ := draw_ok CR (n := 25) (x := x1) (by decide) (by decide) hy1
    refine ⟨d2 - 12, x2, y2, ?_, by omega, by omega, hy2⟩
    simp [c__law_top, fnB, b__law_top, atD, gSeq, gAsg, eCall, aCons, aNil, eVar, eC, pick, h, tgName, gIf, eT, e2, eVarB, gLt, gI, hw, gRet, h2, gSub]
  · have i3 : inR 3 = true := by decide
    have i5 : inR 5 = true := by decide
    by_cases h3 : w = 3
    · subst h3
      obtain ⟨f', x2, y2, q', r1, r2, r3, r4⟩ := top_loop CR (.sh (.int 3)) (rngD 0 3) 0 0 x1 y1 .un (by decide) (by decide) (by decide) hy1
      have f1 : f' < 10 ^ 45 := by
        have : (10:Int) ^ (9 * (0 + (rngD 0 3).length)) ≤ 10 ^ 45 := by decide
        omega
      obtain ⟨t, x3, y3, e1, e2', e3, e4⟩ := topR_ok CR (.sh (.int 3)) q' (x' := x2) r2 f1 r4
      refine ⟨t, x3, y3, ?_, e2', e3, e4⟩
      simp [c__law_top, fnB, top_split, atD, gSeq, gAsg, eCall, aCons, aNil, eVar, eC, pick, h, tgName, gIf, eT, e2, eVarB, gLt, gI, gNil, gFor, iR1, eIf, gSEq, outB, i3]
      have r1' : gLoop (fun d s => some ⟨s.sl.set 3 (.sh d), s.pot⟩) (topB CR) (rngD 0 3) ⟨[Sl.sh D.pot, Sl.sh (D.int 3), Sl.sh (D.int 0), Sl.un], some (x1, y1)⟩ = _ := r1
      first
      | rw [r1]; simp [e1]
      | (simp [r1, e1]; done)
    · have h4 : w = 4 := by omega
      subst h4
      obtain ⟨f', x2, y2, q', r1, r2, r3, r4⟩ := top_loop CR (.sh (.int 4)) (rngD 0 5) 0 0 x1 y1 .un (by decide) (by decide) (by decide) hy1
      have f1 : f' < 10 ^ 45 := by
        have : (10:Int) ^ (9 * (0 + (rngD 0 5).length)) ≤ 10 ^ 45 := by decide
        omega
      obtain ⟨t, x3, y3, e1, e2', e3, e4⟩ := topR_ok CR (.sh (.int 4)) q' (x' := x2) r2 f1 r4
      refine ⟨t, x3, y3, ?_, e2', e3, e4⟩
      simp [c__law_top, fnB, top_split, atD, gSeq, gAsg, eCall, aCons, aNil, eVar, eC, pick, h, tgName, gIf, eT, e2, eVarB, gLt, gI, gNil, gFor, iR1, eIf, gSEq, outB, i5]
      first
      | rw [r1]; simp [e1]
      | (simp [r1, e1]; done)
/-- a pair of the law's: top, bottom -/
def Bd (a : Int) : Prop := -(10 ^ 45) < a ∧ a < 10 ^ 45
theorem pair_ok (CR : Addr) {x y : Int} (hy : Yk y) : ∃ a b x' y', c__law_pair CR [.pot] (some (x, y)) = some (.tup [.int a, .int b], some (x', y')) ∧ Bd a ∧ Bd b ∧ b ≠ 0 ∧ Yk y' := by
  have big : (1000 : Int) < 10 ^ 45 := by decide
  obtain ⟨d, x1, y1, h, d0, d1, hy1⟩ := draw_ok CR (n := 3) (x := x) (by decide) (by decide) hy
  by_cases hd : d = 0
  · subst hd
    obtain ⟨b, x2, y2, h2, b0, b1, hy2⟩ := top_ok CR (x := x1) hy1
    obtain ⟨a, x3, y3, h3, a0, a1, hy3⟩ := top_ok CR (x := x2) hy2
    by_cases hb : b = 0
    · refine ⟨a, 5, x3, y3, ?_, ⟨a0, a1⟩, ⟨by omega, by omega⟩, by decide, hy3⟩
      simp [c__law_pair, fnB, b__law_pair, atD, gSeq, gAsg, eIf, eT, e2, eCall, aCons, aNil, eVar, eVarB, eC, pick, h, gSEq, outB, h2, tgName, gRet, eTup, h3, hb, LIM]
    · refine ⟨a, b, x3, y3, ?_, ⟨a0, a1⟩, ⟨b0, b1⟩, hb, hy3⟩
      simp [c__law_pair, fnB, b__law_pair, atD, gSeq, gAsg, eIf, eT, e2, eCall, aCons, aNil, eVar, eVarB, eC, pick, h, gSEq, outB, h2, tgName, gRet, eTup, h3, hb, LIM]
  · obtain ⟨b, x2, y2, h2, b0, b1, hy2⟩ := draw_ok CR (n := 12) (x := x1) (by decide) (by decide) hy1
    obtain ⟨a, x3, y3, h3, a0, a1, hy3⟩ := top_ok CR (x := x2) hy2
    have hb : ¬ (1 + b = 0) := by omega
    refine ⟨a, 1 + b, x3, y3, ?_, ⟨a0, a1⟩, ⟨by omega, by omega⟩, hb, hy3⟩
    simp [c__law_pair, fnB, b__law_pair, atD, gSeq, gAsg, eIf, eT, e2, eCall, aCons, aNil, eVar, eVarB, eC, pick, h, gSEq, outB, hd, h2, gAdd, gI, tgName, gRet, eTup, h3, hb, LIM]
end G11
end
section
set_option linter.all false
set_option maxRecDepth 100000
set_option exponentiation.threshold 20000
namespace G11
open PySem VS
def gC : Sem1 Bool := eT (e2 gGt (eVarB 3) (eC (.int 0)))
def gB : S → Option Fl := gSeq (gPar 2 3 (aCons (eVar 3) (aCons (e2 gMod (eVarB 2) (eVarB 3)) aNil))) gNil
theorem gC_val (n f : Nat) (x0 x1 : Sl) (pt : Pt) : gC ⟨[x0, x1, .sh (.int n), .sh (.int f)], pt⟩ = some (decide (0 < f), ⟨[x0, x1, .sh (.int n), .sh (.int f)], pt⟩) := by
  simp [gC, eT, e2, eVarB, eC, gGt, gI]
theorem gB_val (n f : Nat) (hf : 0 < f) (x0 x1 : Sl) (pt : Pt) : gB ⟨[x0, x1, .sh (.int n), .sh (.int f)], pt⟩ = some (.nx ⟨[x0, x1, .sh (.int f), .sh (.int ((n % f : Nat) : Int))], pt⟩) := by
  have c1 : cMod (n : Int) (f : Int) = true := decide_eq_true (by omega)
  have hm : (n : Int).fmod (f : Int) = ((n % f : Nat) : Int) := by
    rw [Int.fmod_eq_emod_of_nonneg _ (Int.natCast_nonneg _), Int.natCast_emod]
  simp only [gB, gSeq, gPar, aCons, aNil, eVar, e2, eVarB, gMod, gI, c1, hm, List.getElem?_cons_succ, List.getElem?_cons_zero, List.set_cons_succ, List.set_cons_zero, if_true, gNil]
theorem w_step {t : Sem1 Bool} {g : S → Option Fl} {s s1 s2 : S} {n : Nat} (h : t s = some (true, s1)) (h2 : g s1 = some (.nx s2)) : gWhile t g (n + 1) s = gWhile t g n s2 := by
  show (match t s with
    | some (true, s1) => match g s1 with
      | some (.nx s2) => gWhile t g n s2
      | r => r
    | some (false, s1) => some (.nx s1)
    | none => none) = _
  rw [h]
  dsimp only
  rw [h2]
theorem w_stop {t : Sem1 Bool} {g : S → Option Fl} {s s1 : S} {n : Nat} (h : t s = some (false, s1)) : gWhile t g (n + 1) s = some (.nx s1) := by
  show (match t s with
    | some (true, s1) => match g s1 with
      | some (.nx s2) => gWhile t g n s2
      | r => r
    | some (false, s1) => some (.nx s1)
    | none => none) = _
  rw [h]
theorem gcd_loop (x0 x1 : Sl) (pt : Pt) : ∀ (k m n f : Nat), f < 2 ^ k → gWhile gC gB (2 * k + 1 + m) ⟨[x0, x1, .sh (.int n), .sh (.int f)], pt⟩ = some (.nx ⟨[x0, x1, .sh (.int ((Nat.gcd n f : Nat) : Int)), .sh (.int 0)], pt⟩)
  | 0, m, n, f, hf => by
    have : f = 0 := by simpa using hf
    subst this
    rw [show 2 * 0 + 1 + m = m + 1 from by omega, w_stop (s1 := ⟨[x0, x1, .sh (.int n), .sh (.int ((0 : Nat) : Int))], pt⟩) (by rw [gC_val]; rfl), Nat.gcd_zero_right]
    rfl
  | k + 1, m, n, f, hf => by
    by_cases h0 : f = 0
    · subst h0
      rw [show 2 * (k + 1) + 1 + m = (2 * (k + 1) + m) + 1 from by omega, w_stop (s1 := ⟨[x0, x1, .sh (.int n), .sh (.int ((0 : Nat) : Int))], pt⟩) (by rw [gC_val]; rfl), Nat.gcd_zero_right]
      rfl
    · have fp : 0 < f := by omega
      rw [show 2 * (k + 1) + 1 + m = (2 * k + 1 + m + 1) + 1 from by omega, w_step (by rw [gC_val, show decide (0 < f) = true from decide_eq_true fp]) (gB_val n f fp x0 x1 pt)]
      have e1 : Nat.gcd n f = Nat.gcd f (n % f) := by rw [Nat.gcd_comm n f, Nat.gcd_rec, Nat.gcd_comm]
      by_cases h1 : n % f = 0
      · rw [h1, w_stop (s1 := ⟨[x0, x1, .sh (.int f), .sh (.int ((0 : Nat) : Int))], pt⟩) (by rw [gC_val]; rfl), e1, h1, Nat.gcd_zero_right]
        rfl
      · have rp : 0 < n % f := by omega
        have rl : n % f < f := Nat.mod_lt _ fp
        rw [w_step (by rw [gC_val, show decide (0 < n % f) = true from decide_eq_true rp]) (gB_val f (n % f) rp x0 x1 pt)]
        have e2 : Nat.gcd f (n % f) = Nat.gcd (n % f) (f % (n % f)) := by rw [Nat.gcd_comm f, Nat.gcd_rec, Nat.gcd_comm]
        have hr : f % (n % f) < 2 ^ k := by
          have h5 : f % (n % f) < n % f := Nat.mod_lt _ rp
          have h6 : f % (n % f) ≤ f - n % f := by
            rw [Nat.mod_eq_sub_mod (by omega)]
            exact Nat.mod_le _ _
          rw [Nat.pow_succ] at hf
          omega
        rw [e1, e2]
        exact gcd_loop x0 x1 pt k m (n % f) (f % (n % f)) hr
theorem abs_val (a : Int) : (if a < 0 then -a else a) = ((a.natAbs : Nat) : Int) := by split <;> omega
theorem common_ok (CR : Addr) (a b : Int) (pt : Pt) (hb : b.natAbs < 2 ^ 990) : c__law_common CR [.int a, .int b] pt = some (.int ((Nat.gcd a.natAbs b.natAbs : Nat) : Int), pt) := by
  have h := gcd_loop (.sh (.int a)) (.sh (.int b)) pt 990 19 a.natAbs b.natAbs hb
  have hs : b__law_common CR = gSeq (gPar 2 3 (aCons (eL (gI1 fun i => if i < 0 then -i else i) (aCons (eVarB 0) aNil)) (aCons (eL (gI1 fun i => if i < 0 then -i else i) (aCons (eVarB 1) aNil)) aNil))) (gSeq (gWhile gC gB 2000) (gSeq (gRet (eVar 2)) gNil)) := rfl
  have h' : gWhile gC gB 2000 ⟨[.sh (.int a), .sh (.int b), .sh (.int (a.natAbs : Int)), .sh (.int (b.natAbs : Int))], pt⟩ = _ := h
  have ea := abs_val a
  have eb := abs_val b
  simp only [c__law_common, fnB, hs, atD, gSeq, gPar, aCons, aNil, eL, eVarB, gI1, ea, eb, List.map_cons, List.map_nil, List.cons_append, List.nil_append, List.getElem?_cons_succ, List.getElem?_cons_zero, List.length_cons, List.length_nil, List.replicate, List.set_cons_succ, List.set_cons_zero, h', gRet, eVar]
end G11
end
section
set_option linter.all false
set_option maxRecDepth 100000
set_option exponentiation.threshold 20000
namespace G11
open PySem VS
structure Low (p q : Int) : Prop where
  q1 : 1 ≤ q
  g1 : Nat.gcd p.natAbs q.natAbs = 1
theorem rat_low (CR : Addr) {a b : Int} (hb : b ≠ 0) : ∃ p q g, rat CR a b = mk CR p q ∧ Low p q ∧ a = g * p ∧ b = g * q ∧ g ≠ 0 ∧ p.natAbs ≤ a.natAbs ∧ q.natAbs ≤ b.natAbs := by
  have h0 : Nat.gcd a.natAbs b.natAbs ≠ 0 := fun h => hb (by have := Nat.eq_zero_of_gcd_eq_zero_right h; omega)
  have hg : (com a b).natAbs = Nat.gcd a.natAbs b.natAbs := by unfold com; split <;> omega
  have g0 : com a b ≠ 0 := by intro z; rw [z] at hg; simp at hg; exact h0 hg.symm
  have da : com a b ∣ a := Int.natAbs_dvd_natAbs.mp (by rw [hg]; exact Nat.gcd_dvd_left _ _)
  have db : com a b ∣ b := Int.natAbs_dvd_natAbs.mp (by rw [hg]; exact Nat.gcd_dvd_right _ _)
  obtain ⟨p, hp⟩ := da
  obtain ⟨q, hq⟩ := db
  have ep : a.fdiv (com a b) = p := by
    have := Int.mul_fdiv_cancel_left p g0
    rw [← hp] at this
    exact this
  have eq : b.fdiv (com a b) = q := by
    have := Int.mul_fdiv_cancel_left q g0
    rw [← hq] at this
    exact this
  have na : a.natAbs = Nat.gcd a.natAbs b.natAbs * p.natAbs := by rw [← hg, ← Int.natAbs_mul, ← hp]
  have nb : b.natAbs = Nat.gcd a.natAbs b.natAbs * q.natAbs := by rw [← hg, ← Int.natAbs_mul, ← hq]
  have gp : 0 < Nat.gcd a.natAbs b.natAbs := by omega
  have hgcd : Nat.gcd p.natAbs q.natAbs = 1 := by
    have h1 : Nat.gcd a.natAbs b.natAbs = Nat.gcd a.natAbs b.natAbs * Nat.gcd p.natAbs q.natAbs := by
      rw [← Nat.gcd_mul_left, ← na, ← nb]
    have h2 : Nat.gcd a.natAbs b.natAbs * Nat.gcd p.natAbs q.natAbs = Nat.gcd a.natAbs b.natAbs * 1 := by rw [← h1, Nat.mul_one]
    exact Nat.eq_of_mul_eq_mul_left gp h2
  have qp : 1 ≤ q := by
    have hs : (b < 0 ∧ com a b < 0) ∨ (0 < b ∧ 0 < com a b) := by
      unfold com
      by_cases hn : b < 0
      · rw [if_pos hn]; left; omega
      · rw [if_neg hn]; right; omega
    rcases hs with ⟨b0, c0⟩ | ⟨b0, c0⟩
    · by_cases hq0 : q ≤ 0
      · have := Int.mul_nonneg_of_nonpos_of_nonpos (Int.le_of_lt c0) hq0
        omega
      · omega
    · by_cases hq0 : q ≤ 0
      · have := Int.mul_nonpos_of_nonneg_of_nonpos (Int.le_of_lt c0) hq0
        omega
      · omega
  refine ⟨p, q, com a b, ?_, ⟨qp, hgcd⟩, hp, hq, g0, ?_, ?_⟩
  · unfold rat
    rw [ep, eq]
  · rw [na]
    exact Nat.le_mul_of_pos_left _ gp
  · rw [nb]
    exact Nat.le_mul_of_pos_left _ gp
theorem top_mk (CR : Addr) (p q : Int) (pt : Pt) : c_Ratio_top CR [mk CR p q] pt = some (.int p, pt) := by
  simp [c_Ratio_top, fnB, b_Ratio_top, atD, gSeq, gRet, eFld, eVarB, mk, List.findIdx_cons]
theorem bot_mk (CR : Addr) (p q : Int) (pt : Pt) : c_Ratio_bottom CR [mk CR p q] pt = some (.int q, pt) := by
  simp [c_Ratio_bottom, fnB, b_Ratio_bottom, atD, gSeq, gRet, eFld, eVarB, mk, List.findIdx_cons, kbq]
def sg (p : Int) : Int := (if 0 < p then 1 else 0) - (if p < 0 then 1 else 0)
theorem sign_mk (CR : Addr) (p q : Int) (pt : Pt) : c_Ratio_sign CR [mk CR p q] pt = some (.int (sg p), pt) := by
  simp [c_Ratio_sign, fnB, b_Ratio_sign, atD, gSeq, gRet, eFld, eVarB, mk, List.findIdx_cons, e2, eL, aCons, aNil, gGt, gLt, gI, eC, gInt, gSub, sg]
theorem whole_mk (CR : Addr) (p q : Int) (pt : Pt) : c_Ratio_is_whole CR [mk CR p q] pt = some (.bl (decide (q = 1)), pt) := by
  simp [c_Ratio_is_whole, fnB, b_Ratio_is_whole, atD, gSeq, gRet, eFld, eVarB, mk, List.findIdx_cons, kbq, e2, eC, gSEq, outB]
theorem size_mk (CR : Addr) (p q : Int) (pt : Pt) (hq : q ≠ 0) (sq : q.natAbs < 2 ^ 8900) : c_Ratio_size CR [mk CR p q] pt = some (rat CR (p.natAbs : Int) q, pt) := by
  have ea := abs_val p
  simp [c_Ratio_size, fnB, b_Ratio_size, atD, gSeq, gRet, eFld, eVarB, mk, List.findIdx_cons, kbq, eCall, aCons, aNil, eL, gI1, ea, pick, init_ok CR _ _ pt hq sq]
theorem repr2 (p : Int) (w : Bool) : ∃ T, gReprL (.lst [.int (sg p), .bl w]) = some (.str T) := by
  have h : sg p = 1 ∨ sg p = 0 ∨ sg p = -1 := by unfold sg; split <;> split <;> omega
  rcases h with h | h | h <;> rw [h] <;> cases w <;> exact ⟨_, rfl⟩
theorem app_assoc (a b c : Str) : a ++ b ++ c = a ++ (b ++ c) := lt_inj (by simp only [lt_app, List.append_assoc])
theorem app_nil (a : Str) : a ++ Str.ofString "" = a := lt_inj (by rw [lt_app, show lt (Str.ofString "") = [] from by decide, List.append_nil])
end G11
end
section
set_option linter.all false
set_option maxRecDepth 100000
set_option exponentiation.threshold 20000
namespace G11
open PySem VS
section
variable (CR : Addr) (p q : Int) (l : List Sl) (pt : Pt)
theorem l_top : eP CR (c_Ratio_top CR) (eVar 0) ⟨.sh (mk CR p q) :: l, pt⟩ = some (.int p, ⟨.sh (mk CR p q) :: l, pt⟩) := by
  have h := top_mk CR p q pt
  unfold mk at h ⊢
  simp [eP, eVar, h]
theorem l_bot : eP CR (c_Ratio_bottom CR) (eVar 0) ⟨.sh (mk CR p q) :: l, pt⟩ = some (.int q, ⟨.sh (mk CR p q) :: l, pt⟩) := by
  have h := bot_mk CR p q pt
  unfold mk at h ⊢
  simp [eP, eVar, h]
theorem l_sign : eP CR (c_Ratio_sign CR) (eVar 0) ⟨.sh (mk CR p q) :: l, pt⟩ = some (.int (sg p), ⟨.sh (mk CR p q) :: l, pt⟩) := by
  have h := sign_mk CR p q pt
  unfold mk at h ⊢
  simp [eP, eVar, h]
theorem l_whole : eP CR (c_Ratio_is_whole CR) (eVar 0) ⟨.sh (mk CR p q) :: l, pt⟩ = some (.bl (decide (q = 1)), ⟨.sh (mk CR p q) :: l, pt⟩) := by
  have h := whole_mk CR p q pt
  unfold mk at h ⊢
  simp [eP, eVar, h]
theorem l_isi : eIsi (kCls [CR] CR) (eVarB 0) ⟨.sh (mk CR p q) :: l, pt⟩ = some (.bl true, ⟨.sh (mk CR p q) :: l, pt⟩) := by
  simp [eIsi, eVarB, mk, kCls]
theorem l_size (hq : q ≠ 0) (sq : q.natAbs < 2 ^ 8900) : eM "size" CR (c_Ratio_size CR) [0] [] (eVar 0) aNil ⟨.sh (mk CR p q) :: l, pt⟩ = some (rat CR (p.natAbs : Int) q, ⟨.sh (mk CR p q) :: l, pt⟩) := by
  have h := size_mk CR p q pt hq sq
  have hn : ([Str.ofString "own_top", Str.ofString "own_bottom"] : List Str).contains (Str.ofString "size") = false := by decide +kernel
  unfold mk at h ⊢
  simp only [eM, eVar, List.getElem?_cons_zero, hn, and_self, if_true, aNil, pick, List.append_nil, List.filterMap_cons, List.filterMap_nil, List.getElem?_cons_zero, h]
theorem l_str (tp : Tx' p) (tq : Tx' q) : e1 (gOwnT CR (cf_Ratio___str__ CR)) (eVar 0) ⟨.sh (mk CR p q) :: l, pt⟩ = some (.str (if q = 1 then txt p else txt p ++ Str.ofString "/" ++ txt q), ⟨.sh (mk CR p q) :: l, pt⟩) := by
  have h : cf_Ratio___str__ CR [mk CR p q] = some (.str (if q = 1 then txt p else txt p ++ Str.ofString "/" ++ txt q)) := by
    unfold cf_Ratio___str__
    simp only [insD_mk]
    exact if_pos ⟨tp, tq⟩
  unfold mk at h ⊢
  simp only [e1, eVar, List.getElem?_cons_zero, gOwnT, if_true, h]
theorem l_repr (tp : Tx' p) (tq : Tx' q) : e1 (gOwnT CR (cf_Ratio___repr__ CR)) (eVar 0) ⟨.sh (mk CR p q) :: l, pt⟩ = some (.str (Str.ofString "Ratio(" ++ txt p ++ Str.ofString ", " ++ txt q ++ Str.ofString ")"), ⟨.sh (mk CR p q) :: l, pt⟩) := by
  have h : cf_Ratio___repr__ CR [mk CR p q] = some (.str (Str.ofString "Ratio(" ++ txt p ++ Str.ofString ", " ++ txt q ++ Str.ofString ")")) := by
    unfold cf_Ratio___repr__
    simp only [insD_mk]
    exact if_pos ⟨tp, tq⟩
  unfold mk at h ⊢
  simp only [e1, eVar, List.getElem?_cons_zero, gOwnT, if_true, h]
end
theorem add_str {a b : Str} (h : a.length + b.length ≤ LIM) : gAdd (.str a) (.str b) = some (.str (a ++ b)) := by
  simp [gAdd, gI, gStrAdd, h]
theorem l_ttop (CR : Addr) (p q : Int) (l : List Sl) (pt : Pt) (h : Tx' p) : e1 gTxt (eP CR (c_Ratio_top CR) (eVar 0)) ⟨.sh (mk CR p q) :: l, pt⟩ = some (.str (txt p), ⟨.sh (mk CR p q) :: l, pt⟩) := by
  have lp : p.natAbs.log2 < 1920 := Nat.lt_of_lt_of_le h (by decide)
  simp only [e1, l_top, gTxt, lp, if_true]
  rfl
theorem l_tbot (CR : Addr) (p q : Int) (l : List Sl) (pt : Pt) (h : Tx' q) : e1 gTxt (eP CR (c_Ratio_bottom CR) (eVar 0)) ⟨.sh (mk CR p q) :: l, pt⟩ = some (.str (txt q), ⟨.sh (mk CR p q) :: l, pt⟩) := by
  have lp : q.natAbs.log2 < 1920 := Nat.lt_of_lt_of_le h (by decide)
  simp only [e1, l_bot, gTxt, lp, if_true]
  rfl
theorem oe_rat (CR : Addr) {a b : Int} : dqT (oe CR) 1 (rat CR a b) (rat CR a b) = some true := by
  unfold rat
  generalize a.fdiv (com a b) = p
  generalize b.fdiv (com a b) = q
  have : oe CR (mk CR p q) (mk CR p q) = some true := by
    unfold oe
    rw [insD_mk]
    have : (match insD CR (mk CR p q) with
      | some (c, d) => some (decide (p = c) && decide (q = d))
      | none => none) = some true := by rw [insD_mk]; simp
    exact this
  exact this
def okA (a b : Str) : Bool := decide (a.length + b.length ≤ LIM)
theorem tx_log {p : Int} (h : Tx' p) : p.natAbs.log2 < 1920 := Nat.lt_of_lt_of_le h (by decide)
theorem is_ok (CR : Addr) {p q A B : Int} (pt : Pt) (L : Low p q) (tp : Tx' p) (tq : Tx' q) (e : p * B = A * q) (m1 : cMul p B = true) (m2 : cMul A q = true) (sq : q.natAbs < 2 ^ 990) :
    c__law_is CR [mk CR p q, .int A, .int B] pt = some (.bl true, pt) := by
  have hq : q ≠ 0 := by have := L.q1; omega
  have nq : ¬ q < 1 := by have := L.q1; omega
  have sq2 : q.natAbs < 2 ^ 8900 := Nat.lt_of_lt_of_le sq (Nat.pow_le_pow_right (by decide) (by decide))
  have hc := fun pt => common_ok CR p q pt sq
  rw [L.g1] at hc
  have lp := tx_log tp
  have lq := tx_log tq
  have ea := abs_val p
  obtain ⟨T, hT⟩ := repr2 p (decide (q = 1))
  have hi := fun pt => init_ok CR (p.natAbs : Int) q pt hq sq2
  have k1 := txt_len tp
  have k2 := txt_len tq
  have tx : (Str.ofString (Int.repr p)) = txt p := rfl
  have tx2 : (Str.ofString (Int.repr q)) = txt q := rfl
  have hs : (if 0 < p then (1:Int) else 0) - (if p < 0 then (1:Int) else 0) = sg p := rfl
  have a1 : (Str.ofString "/").length = 1 := by decide
  have a2 : (Str.ofString "Ratio(").length = 6 := by decide
  have a3 : (Str.ofString ", ").length = 2 := by decide
  have a4 : (Str.ofString ")").length = 1 := by decide
  have a5 : (Str.ofString "").length = 0 := by decide
  have b1 := add_str (a := Str.ofString "/") (b := txt q) (by unfold LIM; omega)
  have b2 := add_str (a := txt p) (b := Str.ofString "/" ++ txt q) (by simp only [app_len]; unfold LIM; omega)
  have b0 := add_str (a := txt p) (b := Str.ofString "") (by unfold LIM; omega)
  have b3 := add_str (a := Str.ofString "Ratio(") (b := txt p) (by unfold LIM; omega)
  have b4 := add_str (a := Str.ofString "Ratio(" ++ txt p) (b := Str.ofString ", ") (by simp only [app_len]; unfold LIM; omega)
  have b5 := add_str (a := Str.ofString "Ratio(" ++ txt p ++ Str.ofString ", ") (b := txt q) (by simp only [app_len]; unfold LIM; omega)
  have b6 := add_str (a := Str.ofString "Ratio(" ++ txt p ++ Str.ofString ", " ++ txt q) (b := Str.ofString ")") (by simp only [app_len]; unfold LIM; omega)
  rw [app_nil] at b0
  have ass := app_assoc (txt p) (Str.ofString "/") (txt q)
  have r1 : ∀ (f : Sem1 D) (s s' : S), f s = some (.lst [.int (sg p), .bl (decide (q = 1))], s') → e1 gReprL f s = some (.str T, s') := fun f s s' h => by
    simp only [e1, h, hT]
  have g1 : ∀ (l : List Sl) (pt : Pt), e1 gReprL (eLst (aCons (eP CR (c_Ratio_sign CR) (eVar 0)) (aCons (eP CR (c_Ratio_is_whole CR) (eVar 0)) aNil))) ⟨.sh (mk CR p q) :: l, pt⟩ = some (.str T, ⟨.sh (mk CR p q) :: l, pt⟩) := fun l pt => r1 _ _ _ (by simp [eLst, aCons, aNil, l_sign, l_whole, LIM])
  have g2 : ∀ (x1 x2 x3 : Sl) (pt : Pt), e1 gReprL (eLst (aCons (eVar 4) (aCons (e2 (gSEq false) (eP CR (c_Ratio_bottom CR) (eVar 0)) (eC (.int 1))) aNil))) ⟨[.sh (mk CR p q), x1, x2, x3, .sh (.int (sg p))], pt⟩ = some (.str T, ⟨[.sh (mk CR p q), x1, x2, x3, .sh (.int (sg p))], pt⟩) := fun x1 x2 x3 pt => r1 _ _ _ (by simp [eLst, aCons, aNil, l_bot, LIM, eVar, e2, eC, gSEq, outB])
  have g3 : gEqD false (dqT (oe CR) 1) (rat CR (p.natAbs : Int) q) (rat CR (p.natAbs : Int) q) = some (.bl true) := by
    unfold gEqD
    rw [oe_rat]
    rfl
  by_cases h1 : q = 1
  · have hx := eq_true h1
    simp [c__law_is, fnB, b__law_is, atD, gSeq, gIf, eOrT, eNotT, eT, l_isi, l_top, l_bot, l_str, l_repr, l_ttop, l_tbot, tp, tq, e2, eC, gLt, gGt, gI, nq, gSEq, outB, eVarB, gMul, m1, m2, e, eCall, aCons, aNil, pick, hc, gNil, gAsg, tgName, eIf, hx, b0, b1, b2, b3, b4, b5, b6, ass, gRet, eAnd, eL, gInt, gSub, hs, g1, g2, g3, l_size CR p q _ _ hq sq2, hi, gI1, ea]
  · have hx := eq_false h1
    simp [c__law_is, fnB, b__law_is, atD, gSeq, gIf, eOrT, eNotT, eT, l_isi, l_top, l_bot, l_str, l_repr, l_ttop, l_tbot, tp, tq, e2, eC, gLt, gGt, gI, nq, gSEq, outB, eVarB, gMul, m1, m2, e, eCall, aCons, aNil, pick, hc, gNil, gAsg, tgName, eIf, hx, b0, b1, b2, b3, b4, b5, b6, ass, gRet, eAnd, eL, gInt, gSub, hs, g1, g2, g3, l_size CR p q _ _ hq sq2, hi, gI1, ea]
end G11
end
section
set_option linter.all false
set_option maxRecDepth 100000
set_option exponentiation.threshold 20000
namespace G11
open PySem VS
/-- below 2^900 -/
def B9 (a : Int) : Prop := a.natAbs < 2 ^ 900
theorem b9_tx {a : Int} (h : B9 a) : Tx' a := by
  unfold Tx'
  by_cases z : a.natAbs = 0
  · rw [z]; decide
  · rw [Nat.log2_lt z]
    exact Nat.lt_trans h (Nat.pow_lt_pow_right (by decide) (by decide))
theorem b9_mul {a b : Int} (ha : B9 a) (hb : B9 b) : cMul a b = true := sm_mul' (n := 900) (m := 900) ha hb (by decide)
theorem is_rat (CR : Addr) {P Q A B : Int} (pt : Pt) (hQ : Q ≠ 0) (e : P * B = A * Q) (sP : B9 P) (sQ : B9 Q) (sA : B9 A) (sB : B9 B) : c__law_is CR [rat CR P Q, .int A, .int B] pt = some (.bl true, pt) := by
  obtain ⟨p, q, g, e1, L, e2, e3, g0, l1, l2⟩ := rat_low CR (a := P) hQ
  rw [e1]
  have sp : B9 p := Nat.lt_of_le_of_lt l1 sP
  have sq : B9 q := Nat.lt_of_le_of_lt l2 sQ
  refine is_ok CR pt L (b9_tx sp) (b9_tx sq) ?_ (b9_mul sp sB) (b9_mul sA sq) (Nat.lt_of_lt_of_le sq (Nat.pow_le_pow_right (by decide) (by decide)))
  have h : g * (p * B) = g * (A * q) := by
    rw [← Int.mul_assoc, ← e2, e, e3, ← Int.mul_assoc, ← Int.mul_assoc, Int.mul_comm A g]
  exact Int.eq_of_mul_eq_mul_left g0 h
end G11
end
section
set_option linter.all false
set_option maxRecDepth 100000
set_option exponentiation.threshold 20000
namespace G11
open PySem VS
/-- two fractions in lowest terms, alike by products across, are the same -/
theorem low_uniq {p q r s : Int} (L : Low p q) (M : Low r s) (e : p * s = r * q) : p = r ∧ q = s := by
  have hq := L.q1
  have hs := M.q1
  have e1 : p.natAbs * s.natAbs = r.natAbs * q.natAbs := by rw [← Int.natAbs_mul, ← Int.natAbs_mul, e]
  have d1 : q.natAbs ∣ s.natAbs := by
    have : q.natAbs ∣ p.natAbs * s.natAbs := by rw [e1]; exact Nat.dvd_mul_left _ _
    exact Nat.Coprime.dvd_of_dvd_mul_left (Nat.coprime_comm.mp L.g1) this
  have d2 : s.natAbs ∣ q.natAbs := by
    have : s.natAbs ∣ r.natAbs * q.natAbs := by rw [← e1]; exact Nat.dvd_mul_left _ _
    exact Nat.Coprime.dvd_of_dvd_mul_left (Nat.coprime_comm.mp M.g1) this
  have e2 : q.natAbs = s.natAbs := Nat.dvd_antisymm d1 d2
  have e3 : q = s := by omega
  subst e3
  exact ⟨Int.eq_of_mul_eq_mul_right (by omega) e, rfl⟩
/-- the law's number has the sign of the difference of products across -/
theorem below_sign {g h p q r s : Int} (g0 : g ≠ 0) (h0 : h ≠ 0) (hq : 1 ≤ q) (hs : 1 ≤ s) :
    ∃ k : Int, 0 < k ∧ ((g * p) * (h * s) - (h * r) * (g * q)) * (g * q) * (h * s) = k * (p * s - r * q) := by
  refine ⟨(g * h) * (g * h) * (q * s), ?_, ?_⟩
  · have h1 : g * h ≠ 0 := Int.mul_ne_zero g0 h0
    have h2 : 0 < (g * h) * (g * h) := by
      rcases Int.lt_or_gt_of_ne h1 with z | z
      · exact Int.mul_pos_of_neg_of_neg z z
      · exact Int.mul_pos z z
    exact Int.mul_pos h2 (Int.mul_pos (by omega) (by omega))
  · grind
end G11
end
section
set_option linter.all false
set_option maxRecDepth 100000
set_option exponentiation.threshold 20000
namespace G11
open PySem VS
section
variable (CR : Addr) {x : D} {p q r s : Int} (pt : Pt)
theorem over_ok (h : num CR x = some (r, s)) (m1 : cMul p s = true) (m2 : cMul q r = true) (hr : r ≠ 0) (hz : q * r ≠ 0) (sz : (q * r).natAbs < 2 ^ 8900) : c_Ratio_over CR [mk CR p q, x] pt = some (rat CR (p * s) (q * r), pt) := by
  have hp := pair_num h pt
  have hi := init_ok CR (p * s) (q * r) pt hz sz
  simp [c_Ratio_over, fnB, b_Ratio_over, gSeq, gAsg, eCall, aCons, aNil, eVar, pick, atD, hp, tgTup, tgCons, tgNil, tgName, gRet, e2, gMul, gI, eFld, eVarB, mk, List.findIdx_cons, kbq, gIf, eT, gSEq, outB, hr, eC, gNil, m1, m2, hi]
theorem below_ok (h : num CR x = some (r, s)) (m1 : cMul p s = true) (m2 : cMul r q = true) : c_Ratio_is_below CR [mk CR p q, x] pt = some (.bl (decide (p * s < r * q)), pt) := by
  have hp := pair_num h pt
  simp [c_Ratio_is_below, fnB, b_Ratio_is_below, gSeq, gAsg, eCall, aCons, aNil, eVar, pick, atD, hp, tgTup, tgCons, tgNil, tgName, gRet, e2, gMul, gI, eFld, eVarB, mk, List.findIdx_cons, kbq, gLt, gNil, m1, m2]
theorem most_ok (h : num CR x = some (r, s)) (m1 : cMul p s = true) (m2 : cMul r q = true) : c_Ratio_is_at_most CR [mk CR p q, x] pt = some (.bl (decide (p * s ≤ r * q)), pt) := by
  have hp := pair_num h pt
  simp [c_Ratio_is_at_most, fnB, b_Ratio_is_at_most, gSeq, gAsg, eCall, aCons, aNil, eVar, pick, atD, hp, tgTup, tgCons, tgNil, tgName, gRet, e2, gMul, gI, eFld, eVarB, mk, List.findIdx_cons, kbq, gLe, gNil, m1, m2]
theorem op2_mk (f : Int → Int → Int → Int → Int × Int) (k : ok4 p q r s) : op2 CR f [mk CR p q, mk CR r s] = some (rat CR (f p q r s).1 (f p q r s).2) := by
  simp only [op2, insD_mk, num_mk]
  exact if_pos k
theorem own_mk {cf cr : List D → Option D} : gOwn2 CR cf cr (mk CR p q) (mk CR r s) = cf [mk CR p q, mk CR r s] := by
  simp [gOwn2, mk]
theorem own_int {cf cr : List D → Option D} {i : Int} : gOwn2 CR cf cr (mk CR p q) (.int i) = cf [mk CR p q, .int i] := by
  simp [gOwn2, mk]
theorem own_tni {cf cr : List D → Option D} {i : Int} : gOwn2 CR cf cr (.int i) (mk CR p q) = cr [mk CR p q, .int i] := by
  simp [gOwn2, mk]
theorem op2_int (f : Int → Int → Int → Int → Int × Int) {i : Int} (k : ok4 p q i 1) : op2 CR f [mk CR p q, .int i] = some (rat CR (f p q i 1).1 (f p q i 1).2) := by
  simp only [op2, insD_mk, num]
  exact if_pos k
theorem eq_dq {ne : Bool} : gEqD ne (dqT (oe CR) 1) (mk CR p q) (mk CR r s) = some (.bl (outB ne (decide (p = r) && decide (q = s)))) := by
  have h : oe CR (mk CR p q) (mk CR r s) = some (decide (p = r) && decide (q = s)) := by
    unfold oe
    rw [insD_mk]
    show (match insD CR (mk CR r s) with
      | some (c, d) => some (decide (p = c) && decide (q = d))
      | none => none) = _
    rw [insD_mk]
  have h2 : dqT (oe CR) 1 (mk CR p q) (mk CR r s) = some (decide (p = r) && decide (q = s)) := h
  unfold gEqD
  rw [h2]
end
end G11
end
section
set_option linter.all false
set_option maxRecDepth 100000
set_option exponentiation.threshold 20000
namespace G11
open PySem VS
theorem seq_nx {g g' : S → Option Fl} {s s1 : S} (h : g s = some (.nx s1)) : gSeq g g' s = g' s1 := by
  unfold gSeq
  rw [h]
theorem if_no {t : Sem1 Bool} {g : S → Option Fl} {s s1 : S} (h : t s = some (false, s1)) : gIf t g gNil s = some (.nx s1) := by
  unfold gIf
  rw [h]
  rfl
theorem not_yes {t : Sem1 Bool} {s s1 : S} (h : t s = some (true, s1)) : eNotT t s = some (false, s1) := by
  unfold eNotT
  rw [h]
  rfl
theorem or_no {t u : Sem1 Bool} {s s1 s2 : S} (h : t s = some (false, s1)) (h2 : u s1 = some (false, s2)) : eOrT t u s = some (false, s2) := by
  unfold eOrT
  rw [h]
  exact h2
theorem and_no {t u : Sem1 Bool} {s s1 : S} {b : Bool} (h : t s = some (b, s1)) (h2 : b = true → u s1 = some (false, s1)) : eAndT t u s = some (false, s1) := by
  unfold eAndT
  rw [h]
  cases b with
  | true => exact h2 rfl
  | false => rfl
section
variable (CR : Addr) {s : S} {X Y Z : Sem1 D} {P Q A B : Int}
theorem l_is (hX : X s = some (rat CR P Q, s)) (hY : Y s = some (.int A, s)) (hZ : Z s = some (.int B, s)) (hQ : Q ≠ 0) (e : P * B = A * Q) (sP : B9 P) (sQ : B9 Q) (sA : B9 A) (sB : B9 B) :
    eT (eCall (c__law_is CR) [0, 1, 2] [] (aCons X (aCons Y (aCons Z aNil)))) s = some (true, s) := by
  have h := is_rat CR s.pot hQ e sP sQ sA sB
  simp [eT, eCall, aCons, aNil, hX, hY, hZ, pick, h]
end
/-- size: below 2^160 -/
def B1 (a : Int) : Prop := a.natAbs < 2 ^ 160
theorem bd_b1 {a : Int} (h : Bd a) : B1 a := by
  unfold B1
  have := h.1
  have := h.2
  have e : (10 : Int) ^ 45 = 1000000000000000000000000000000000000000000000 := by decide
  have e2 : 2 ^ 160 = 1461501637330902918203684832716283019655932542976 := by decide
  rw [e2]
  omega
theorem b1_mul {a b : Int} (ha : B1 a) (hb : B1 b) : (a * b).natAbs < 2 ^ 320 := by
  unfold B1 at ha hb
  rw [Int.natAbs_mul]
  have e : (2:Nat) ^ 320 = 2 ^ 160 * 2 ^ 160 := by rw [← Nat.pow_add]
  rw [e]
  exact Nat.mul_lt_mul'' ha hb
theorem b1_9 {a : Int} (h : B1 a) : B9 a := Nat.lt_trans h (Nat.pow_lt_pow_right (by decide) (by decide))
theorem b2_9 {a : Int} (h : a.natAbs < 2 ^ 320) : B9 a := Nat.lt_trans h (Nat.pow_lt_pow_right (by decide) (by decide))
theorem b2_add {a b : Int} (ha : a.natAbs < 2 ^ 320) (hb : b.natAbs < 2 ^ 320) : (a + b).natAbs < 2 ^ 321 := by
  rw [show (2:Nat) ^ 321 = 2 ^ 320 * 2 from Nat.pow_succ ..]
  generalize (2:Nat) ^ 320 = P at *
  omega
theorem b2_sub {a b : Int} (ha : a.natAbs < 2 ^ 320) (hb : b.natAbs < 2 ^ 320) : (a - b).natAbs < 2 ^ 321 := by
  rw [show (2:Nat) ^ 321 = 2 ^ 320 * 2 from Nat.pow_succ ..]
  generalize (2:Nat) ^ 320 = P at *
  omega
theorem b3_9 {a : Int} (h : a.natAbs < 2 ^ 321) : B9 a := Nat.lt_trans h (Nat.pow_lt_pow_right (by decide) (by decide))
theorem b1_sm {a : Int} (h : B1 a) : Sm a := Nat.lt_trans h (Nat.pow_lt_pow_right (by decide) (by decide))
theorem b1_cm {a b : Int} (ha : B1 a) (hb : B1 b) : cMul a b = true := b9_mul (b1_9 ha) (b1_9 hb)
end G11
end
section
set_option linter.all false
set_option maxRecDepth 100000
set_option maxHeartbeats 1000000
set_option exponentiation.threshold 20000
namespace G11
open PySem VS
section
variable (CR : Addr) {a b c d p q r s : Int} {u v e1' e2' : Sl} (pt : Pt)
/-- the state in _law_two_right -/
def sT (u v : Sl) (a b c d p q r s : Int) (e1' e2' : Sl) (pt : Pt) : S := ⟨[u, v, .sh (mk CR p q), .sh (mk CR r s), .sh (.int a), .sh (.int b), .sh (.int c), .sh (.int d), e1', e2'], pt⟩
theorem t2 : eVar 2 (sT CR u v a b c d p q r s e1' e2' pt) = some (mk CR p q, (sT CR u v a b c d p q r s e1' e2' pt)) := rfl
theorem t3 : eVar 3 (sT CR u v a b c d p q r s e1' e2' pt) = some (mk CR r s, (sT CR u v a b c d p q r s e1' e2' pt)) := rfl
theorem t4 : eVar 4 (sT CR u v a b c d p q r s e1' e2' pt) = some (.int a, (sT CR u v a b c d p q r s e1' e2' pt)) := rfl
theorem t5 : eVar 5 (sT CR u v a b c d p q r s e1' e2' pt) = some (.int b, (sT CR u v a b c d p q r s e1' e2' pt)) := rfl
theorem t4B : eVarB 4 (sT CR u v a b c d p q r s e1' e2' pt) = some (.int a, (sT CR u v a b c d p q r s e1' e2' pt)) := rfl
theorem t5B : eVarB 5 (sT CR u v a b c d p q r s e1' e2' pt) = some (.int b, (sT CR u v a b c d p q r s e1' e2' pt)) := rfl
theorem t6B : eVarB 6 (sT CR u v a b c d p q r s e1' e2' pt) = some (.int c, (sT CR u v a b c d p q r s e1' e2' pt)) := rfl
theorem t7B : eVarB 7 (sT CR u v a b c d p q r s e1' e2' pt) = some (.int d, (sT CR u v a b c d p q r s e1' e2' pt)) := rfl
theorem tmul {f g : Sem1 D} {x y : Int} {S0 : S} (hf : f S0 = some (.int x, S0)) (hg : g S0 = some (.int y, S0)) (h : cMul x y = true) : e2 gMul f g S0 = some (.int (x * y), S0) := by
  simp [e2, hf, hg, gMul, gI, h]
theorem tadd {f g : Sem1 D} {x y : Int} {S0 : S} (hf : f S0 = some (.int x, S0)) (hg : g S0 = some (.int y, S0)) : e2 gAdd f g S0 = some (.int (x + y), S0) := by
  simp [e2, hf, hg, gAdd, gI]
theorem tsub {f g : Sem1 D} {x y : Int} {S0 : S} (hf : f S0 = some (.int x, S0)) (hg : g S0 = some (.int y, S0)) : e2 gSub f g S0 = some (.int (x - y), S0) := by
  simp [e2, hf, hg, gSub, gI]
theorem town {f g : Sem1 D} {G : G2} {x y z : D} {S0 : S} (hf : f S0 = some (x, S0)) (hg : g S0 = some (y, S0)) (h : G x y = some z) : e2 G f g S0 = some (z, S0) := by
  simp [e2, hf, hg, h]
theorem town1 {f : Sem1 D} {G : D → Option D} {x z : D} {S0 : S} (hf : f S0 = some (x, S0)) (h : G x = some z) : e1 G f S0 = some (z, S0) := by
  simp [e1, hf, h]
theorem tC {x : D} {S0 : S} : eC x S0 = some (x, S0) := rfl
end
end G11
end
section
set_option linter.all false
set_option maxRecDepth 100000
set_option maxHeartbeats 1000000
set_option exponentiation.threshold 20000
namespace G11
open PySem VS
theorem or2 {t u : Sem1 Bool} {s : S} (h : t s = some (false, s)) (h2 : u s = some (false, s)) : eOrT t u s = some (false, s) := or_no h h2
theorem not2 {t : Sem1 Bool} {s : S} (h : t s = some (true, s)) : eNotT t s = some (false, s) := not_yes h
structure Two (CR : Addr) (a b c d p q r s g h : Int) : Prop where
  f1 : rat CR a b = mk CR p q
  f2 : rat CR c d = mk CR r s
  ea : a = g * p
  eb : b = g * q
  ec : c = h * r
  ed : d = h * s
  g0 : g ≠ 0
  h0 : h ≠ 0
  b0 : b ≠ 0
  d0 : d ≠ 0
  q1 : 1 ≤ q
  s1 : 1 ≤ s
  L : Low p q
  M : Low r s
  za : B1 a
  zb : B1 b
  zc : B1 c
  zd : B1 d
  zp : B1 p
  zq : B1 q
  zr : B1 r
  zs : B1 s
section
variable (CR : Addr) {a b c d p q r s g h : Int} {u v y z : Sl} (pt : Pt)
theorem Two.k {CR : Addr} (T : Two CR a b c d p q r s g h) : ok4 p q r s := ⟨b1_sm T.zp, b1_sm T.zq, b1_sm T.zr, b1_sm T.zs, by have := T.q1; omega, by have := T.s1; omega⟩
theorem Two.qs {CR : Addr} (T : Two CR a b c d p q r s g h) : q * s ≠ 0 := Int.mul_ne_zero (by have := T.q1; omega) (by have := T.s1; omega)
theorem Two.x1 {CR : Addr} (T : Two CR a b c d p q r s g h) : (p * s + r * q) * (b * d) = (a * d + c * b) * (q * s) := by
  rw [T.ea, T.eb, T.ec, T.ed]; grind
theorem Two.x2 {CR : Addr} (T : Two CR a b c d p q r s g h) : (p * s - r * q) * (b * d) = (a * d - c * b) * (q * s) := by
  rw [T.ea, T.eb, T.ec, T.ed]; grind
theorem Two.x3 {CR : Addr} (T : Two CR a b c d p q r s g h) : (p * r) * (b * d) = (a * c) * (q * s) := by
  rw [T.ea, T.eb, T.ec, T.ed]; grind
theorem Two.x4 {CR : Addr} (T : Two CR a b c d p q r s g h) : (0 - p) * b = (0 - a) * q := by
  rw [T.ea, T.eb]; grind
theorem Two.x5 {CR : Addr} (T : Two CR a b c d p q r s g h) : (p * s) * (b * c) = (a * d) * (q * r) := by
  rw [T.ea, T.eb, T.ec, T.ed]; grind
theorem if1 (T : Two CR a b c d p q r s g h) :
    gIf (eOrT (eNotT (eT (eCall (c__law_is CR) [0, 1, 2] [] (aCons (eVar 2) (aCons (eVar 4) (aCons (eVar 5) aNil)))))) (eOrT (eNotT (eT (eCall (c__law_is CR) [0, 1, 2] [] (aCons (e2 (gOwn2 CR (cf_Ratio___add__ CR) (cf_Ratio___radd__ CR)) (eVar 2) (eVar 3)) (aCons (e2 gAdd (e2 gMul (eVarB 4) (eVarB 7)) (e2 gMul (eVarB 6) (eVarB 5))) (aCons (e2 gMul (eVarB 5) (eVarB 7)) aNil)))))) (eNotT (eT (eCall (c__law_is CR) [0, 1, 2] [] (aCons (e2 (gOwn2 CR (cf_Ratio___sub__ CR) (cf_Ratio___rsub__ CR)) (eVar 2) (eVar 3)) (aCons (e2 gSub (e2 gMul (eVarB 4) (eVarB 7)) (e2 gMul (eVarB 6) (eVarB 5))) (aCons (e2 gMul (eVarB 5) (eVarB 7)) aNil)))))))) (gSeq (gRet (eC (.bl false)))
    gNil) gNil (sT CR u v a b c d p q r s y z pt) = some (.nx (sT CR u v a b c d p q r s y z pt)) := by
  refine if_no (or2 (not2 ?_) (or2 (not2 ?_) (not2 ?_)))
  · refine l_is CR ((t2 CR pt).trans (by rw [T.f1])) (t4 CR pt) (t5 CR pt) T.b0 rfl (b1_9 T.za) (b1_9 T.zb) (b1_9 T.za) (b1_9 T.zb)
  · refine l_is CR (town (t2 CR pt) (t3 CR pt) ((own_mk CR).trans (op2_mk CR _ T.k))) (tadd (tmul (t4B CR pt) (t7B CR pt) (b1_cm T.za T.zd)) (tmul (t6B CR pt) (t5B CR pt) (b1_cm T.zc T.zb))) (tmul (t5B CR pt) (t7B CR pt) (b1_cm T.zb T.zd)) T.qs T.x1 (b3_9 (b2_add (b1_mul T.zp T.zs) (b1_mul T.zr T.zq))) (b2_9 (b1_mul T.zq T.zs)) (b3_9 (b2_add (b1_mul T.za T.zd) (b1_mul T.zc T.zb))) (b2_9 (b1_mul T.zb T.zd))
  · refine l_is CR (town (t2 CR pt) (t3 CR pt) ((own_mk CR).trans (op2_mk CR _ T.k))) (tsub (tmul (t4B CR pt) (t7B CR pt) (b1_cm T.za T.zd)) (tmul (t6B CR pt) (t5B CR pt) (b1_cm T.zc T.zb))) (tmul (t5B CR pt) (t7B CR pt) (b1_cm T.zb T.zd)) T.qs T.x2 (b3_9 (b2_sub (b1_mul T.zp T.zs) (b1_mul T.zr T.zq))) (b2_9 (b1_mul T.zq T.zs)) (b3_9 (b2_sub (b1_mul T.za T.zd) (b1_mul T.zc T.zb))) (b2_9 (b1_mul T.zb T.zd))
theorem l_eM {m : Str} {cc : Fn} {f f' : Sem1 D} {S0 : S} {x res : D} (hm : nms.contains m = false) (hf : f S0 = some (mk CR p q, S0)) (hg : f' S0 = some (x, S0)) (hc : cc [mk CR p q, x] S0.pot = some (res, S0.pot)) :
    eM m CR cc [0, 1] [] f (aCons f' aNil) S0 = some (res, S0) := by
  unfold eM
  rw [hf]
  have hp : pick [0, 1] (mk CR p q :: ([x] ++ ([] : List D))) = [mk CR p q, x] := rfl
  have ha : aCons f' aNil S0 = some ([x], S0) := by simp [aCons, aNil, hg]
  show (if CR = CR ∧ nms.contains m = false then _ else none) = _
  rw [if_pos ⟨rfl, hm⟩, ha]
  show (match cc (pick [0, 1] (mk CR p q :: ([x] ++ ([] : List D)))) S0.pot with
        | some (d, pt) => some (d, { S0 with pot := pt })
        | none => none) = _
  rw [hp, hc]
theorem if2 (T : Two CR a b c d p q r s g h) :
    gIf (eOrT (eNotT (eT (eCall (c__law_is CR) [0, 1, 2] [] (aCons (e2 (gOwn2 CR (cf_Ratio___mul__ CR) (cf_Ratio___rmul__ CR)) (eVar 2) (eVar 3)) (aCons (e2 gMul (eVarB 4) (eVarB 6)) (aCons (e2 gMul (eVarB 5) (eVarB 7)) aNil)))))) (eNotT (eT (eCall (c__law_is CR) [0, 1, 2] [] (aCons (e1 (gOwn1 CR (cf_Ratio___neg__ CR)) (eVar 2)) (aCons (e2 gSub (eC (.int 0)) (eVarB 4)) (aCons (eVar 5) aNil))))))) (gSeq (gRet (eC (.bl false)))
    gNil) gNil (sT CR u v a b c d p q r s y z pt) = some (.nx (sT CR u v a b c d p q r s y z pt)) := by
  have hn : gOwn1 CR (cf_Ratio___neg__ CR) (mk CR p q) = some (rat CR (0 - p) q) := by
    have e : cf_Ratio___neg__ CR [mk CR p q] = some (rat CR (0 - p) q) := by
      unfold cf_Ratio___neg__
      simp only [insD_mk]
      exact if_pos ⟨b1_sm T.zp, b1_sm T.zq, by have := T.q1; omega⟩
    have e' : gOwn1 CR (cf_Ratio___neg__ CR) (mk CR p q) = cf_Ratio___neg__ CR [mk CR p q] := by simp [gOwn1, mk]
    rw [e', e]
  have z0 : ∀ {i : Int}, B1 i → B9 (0 - i) := fun {i} hi => by
    have : (0 - i).natAbs = i.natAbs := by omega
    have := b1_9 hi
    unfold B9 at *
    omega
  refine if_no (or2 (not2 ?_) (not2 ?_))
  · refine l_is CR (town (t2 CR pt) (t3 CR pt) ((own_mk CR).trans (op2_mk CR _ T.k))) (tmul (t4B CR pt) (t6B CR pt) (b1_cm T.za T.zc)) (tmul (t5B CR pt) (t7B CR pt) (b1_cm T.zb T.zd)) T.qs T.x3 (b2_9 (b1_mul T.zp T.zr)) (b2_9 (b1_mul T.zq T.zs)) (b2_9 (b1_mul T.za T.zc)) (b2_9 (b1_mul T.zb T.zd))
  · refine l_is CR (town1 (t2 CR pt) hn) (tsub tC (t4B CR pt)) (t5 CR pt) (by have := T.q1; omega) T.x4 (z0 T.zp) (b1_9 T.zq) (z0 T.za) (b1_9 T.zb)
theorem if3 (T : Two CR a b c d p q r s g h) :
    gIf (eAndT (eT (e2 (gSEq true) (eVarB 6) (eC (.int 0)))) (eNotT (eT (eCall (c__law_is CR) [0, 1, 2] [] (aCons (eM "over" CR (c_Ratio_over CR) [0, 1] [] (eVar 2) (aCons (eVar 3) aNil)) (aCons (e2 gMul (eVarB 4) (eVarB 7)) (aCons (e2 gMul (eVarB 5) (eVarB 6)) aNil))))))) (gSeq (gRet (eC (.bl false)))
    gNil) gNil (sT CR u v a b c d p q r s y z pt) = some (.nx (sT CR u v a b c d p q r s y z pt)) := by
  have ht : eT (e2 (gSEq true) (eVarB 6) (eC (.int 0))) (sT CR u v a b c d p q r s y z pt) = some (outB true (decide (c = 0)), sT CR u v a b c d p q r s y z pt) := by
    simp [eT, e2, t6B, tC, gSEq]
  refine if_no (and_no ht fun hc => ?_)
  refine not2 ?_
  have hc0 : c ≠ 0 := by simpa [outB] using hc
  have hr : r ≠ 0 := fun e => hc0 (by rw [T.ec, e, Int.mul_zero])
  have hz : q * r ≠ 0 := Int.mul_ne_zero (by have := T.q1; omega) hr
  have sz : (q * r).natAbs < 2 ^ 8900 := Nat.lt_trans (b1_mul T.zq T.zr) (Nat.pow_lt_pow_right (by decide) (by decide))
  have ho := over_ok CR (p := p) (q := q) pt (num_mk CR r s) (b1_cm T.zp T.zs) (b1_cm T.zq T.zr) hr hz sz
  have hM : eM "over" CR (c_Ratio_over CR) [0, 1] [] (eVar 2) (aCons (eVar 3) aNil) (sT CR u v a b c d p q r s y z pt) = some (rat CR (p * s) (q * r), sT CR u v a b c d p q r s y z pt) := l_eM CR (by decide) (t2 CR pt) (t3 CR pt) ho
  exact l_is CR hM (tmul (t4B CR pt) (t7B CR pt) (b1_cm T.za T.zd)) (tmul (t5B CR pt) (t6B CR pt) (b1_cm T.zb T.zc)) hz T.x5 (b2_9 (b1_mul T.zp T.zs)) (b2_9 (b1_mul T.zq T.zr)) (b2_9 (b1_mul T.za T.zd)) (b2_9 (b1_mul T.zb T.zc))
end
end G11
end
section
set_option linter.all false
set_option maxRecDepth 100000
set_option maxHeartbeats 1000000
set_option exponentiation.threshold 20000
namespace G11
open PySem VS
section
variable (CR : Addr) {a b c d p q r s g h : Int} {u v y z : Sl} (pt : Pt)
def bel (a b c d : Int) : Int := (a * d - c * b) * b * d
theorem Two.sg {CR : Addr} (T : Two CR a b c d p q r s g h) : ∃ k : Int, 0 < k ∧ bel a b c d = k * (p * s - r * q) := by
  obtain ⟨k, k0, e⟩ := below_sign (p := p) (r := r) T.g0 T.h0 T.q1 T.s1
  refine ⟨k, k0, ?_⟩
  rw [← e, bel, T.ea, T.eb, T.ec, T.ed]
theorem Two.lt {CR : Addr} (T : Two CR a b c d p q r s g h) : (p * s < r * q) ↔ bel a b c d < 0 := by
  obtain ⟨k, k0, e⟩ := T.sg
  rw [e]
  generalize p * s = x
  generalize r * q = w
  constructor
  · intro l
    exact Int.mul_neg_of_pos_of_neg k0 (by omega)
  · intro l
    have : x - w < 0 := by
      apply Decidable.byContradiction
      intro n
      have := Int.mul_nonneg (Int.le_of_lt k0) (show 0 ≤ x - w by omega)
      omega
    omega
theorem Two.gt {CR : Addr} (T : Two CR a b c d p q r s g h) : (r * q < p * s) ↔ 0 < bel a b c d := by
  obtain ⟨k, k0, e⟩ := T.sg
  rw [e]
  generalize p * s = x
  generalize r * q = w
  constructor
  · intro l
    exact Int.mul_pos k0 (by omega)
  · intro l
    have : 0 < x - w := by
      apply Decidable.byContradiction
      intro n
      have := Int.mul_nonneg (Int.le_of_lt k0) (show 0 ≤ w - x by omega)
      have e2 : k * (w - x) = - (k * (x - w)) := by grind
      omega
    omega
theorem Two.eq {CR : Addr} (T : Two CR a b c d p q r s g h) : (p = r ∧ q = s) ↔ bel a b c d = 0 := by
  have h1 := T.lt
  have h2 := T.gt
  constructor
  · rintro ⟨x, w⟩
    have : p * s = r * q := by rw [x, w]
    omega
  · intro e
    exact low_uniq T.L T.M (by omega)
theorem Two.le {CR : Addr} (T : Two CR a b c d p q r s g h) : (p * s ≤ r * q) ↔ bel a b c d ≤ 0 := by
  have h2 := T.gt
  omega
end
end G11
end
section
set_option linter.all false
set_option maxRecDepth 100000
set_option maxHeartbeats 2000000
set_option exponentiation.threshold 20000
namespace G11
open PySem VS
theorem repr5 (x1 x2 x3 x4 x5 : Bool) : ∃ T, gReprL (.lst [.bl x1, .bl x2, .bl x3, .bl x4, .bl x5]) = some (.str T) := by
  cases x1 <;> cases x2 <;> cases x3 <;> cases x4 <;> cases x5 <;> exact ⟨_, rfl⟩
theorem cons1 {f : Sem1 D} {g : Sem1 (List D)} {S0 : S} {x : D} {xs : List D} (hf : f S0 = some (x, S0)) (hg : g S0 = some (xs, S0)) : aCons f g S0 = some (x :: xs, S0) := by
  simp [aCons, hf, hg]
theorem lst1 {g : Sem1 (List D)} {S0 : S} {xs : List D} (hg : g S0 = some (xs, S0)) (h : xs.length ≤ LIM) : eLst g S0 = some (.lst xs, S0) := by
  simp [eLst, hg, h]
section
variable (CR : Addr) {a b c d p q r s g h : Int} {u v y z : Sl} (pt : Pt)
theorem b9_bel (T : Two CR a b c d p q r s g h) : cMul (a * d - c * b) b = true ∧ cMul ((a * d - c * b) * b) d = true := by
  have h1 := b2_sub (b1_mul T.za T.zd) (b1_mul T.zc T.zb)
  refine ⟨b9_mul (b3_9 h1) (b1_9 T.zb), b9_mul ?_ (b1_9 T.zd)⟩
  unfold B9
  rw [Int.natAbs_mul]
  have e : (2:Nat) ^ 481 = 2 ^ 321 * 2 ^ 160 := by rw [← Nat.pow_add]
  refine Nat.lt_trans (m := 2 ^ 481) ?_ (Nat.pow_lt_pow_right (by decide) (by decide))
  rw [e]
  exact Nat.mul_lt_mul'' h1 T.zb
theorem bel_v (T : Two CR a b c d p q r s g h) : gAsg (e2 gMul (e2 gMul (e2 gSub (e2 gMul (eVarB 4) (eVarB 7)) (e2 gMul (eVarB 6) (eVarB 5))) (eVarB 5)) (eVarB 7)) (tgName 8) (sT CR u v a b c d p q r s y z pt) = some (.nx (sT CR u v a b c d p q r s (.sh (.int (bel a b c d))) z pt)) := by
  have hv := tmul (tmul (tsub (tmul (t4B CR pt) (t7B CR pt) (b1_cm T.za T.zd)) (tmul (t6B CR pt) (t5B CR pt) (b1_cm T.zc T.zb))) (t5B CR pt (u := u) (v := v) (p := p) (q := q) (r := r) (s := s) (e1' := y) (e2' := z)) (b9_bel CR T).1) (t7B CR pt) (b9_bel CR T).2
  unfold gAsg
  rw [hv]
  rfl
theorem told_v (T : Two CR a b c d p q r s g h) : gAsg (eLst (aCons (eM "is_below" CR (c_Ratio_is_below CR) [0, 1] [] (eVar 2) (aCons (eVar 3) aNil)) (aCons (eM "is_at_most" CR (c_Ratio_is_at_most CR) [0, 1] [] (eVar 2) (aCons (eVar 3) aNil)) (aCons (eM "is_below" CR (c_Ratio_is_below CR) [0, 1] [] (eVar 3) (aCons (eVar 2) aNil)) (aCons (e2 (gEqD false (dqT (oe CR) 1)) (eVar 2) (eVar 3)) (aCons (e2 (gEqD true (dqT (oe CR) 1)) (eVar 2) (eVar 3)) aNil)))))) (tgName 9) (sT CR u v a b c d p q r s y z pt)
    = some (.nx (sT CR u v a b c d p q r s y (.sh (.lst [.bl (decide (bel a b c d < 0)), .bl (decide (bel a b c d ≤ 0)), .bl (decide (0 < bel a b c d)), .bl (decide (bel a b c d = 0)), .bl (!decide (bel a b c d = 0))])) pt)) := by
  have h1 := l_eM CR (m := "is_below") (S0 := sT CR u v a b c d p q r s y z pt) (by decide) (t2 CR pt) (t3 CR pt) (below_ok CR pt (num_mk CR r s) (b1_cm T.zp T.zs) (b1_cm T.zr T.zq))
  have h2 := l_eM CR (m := "is_at_most") (S0 := sT CR u v a b c d p q r s y z pt) (by decide) (t2 CR pt) (t3 CR pt) (most_ok CR pt (num_mk CR r s) (b1_cm T.zp T.zs) (b1_cm T.zr T.zq))
  have h3 := l_eM CR (m := "is_below") (S0 := sT CR u v a b c d p q r s y z pt) (by decide) (t3 CR pt) (t2 CR pt) (below_ok CR pt (num_mk CR p q) (b1_cm T.zr T.zq) (b1_cm T.zp T.zs))
  have h4 := town (S0 := sT CR u v a b c d p q r s y z pt) (t2 CR pt) (t3 CR pt) (eq_dq CR (ne := false) (p := p) (q := q) (r := r) (s := s))
  have h5 := town (S0 := sT CR u v a b c d p q r s y z pt) (t2 CR pt) (t3 CR pt) (eq_dq CR (ne := true) (p := p) (q := q) (r := r) (s := s))
  have i1 : decide (p * s < r * q) = decide (bel a b c d < 0) := decide_eq_decide.mpr T.lt
  have i2 : decide (p * s ≤ r * q) = decide (bel a b c d ≤ 0) := decide_eq_decide.mpr T.le
  have i3 : decide (r * q < p * s) = decide (0 < bel a b c d) := decide_eq_decide.mpr T.gt
  have i4 : (decide (p = r) && decide (q = s)) = decide (bel a b c d = 0) := by
    rw [← Bool.decide_and]
    exact decide_eq_decide.mpr T.eq
  rw [i1] at h1
  rw [i2] at h2
  rw [i3] at h3
  rw [i4] at h4 h5
  have hl := lst1 (cons1 h1 (cons1 h2 (cons1 h3 (cons1 h4 (cons1 h5 (show aNil (sT CR u v a b c d p q r s y z pt) = some ([], _) from rfl)))))) (show 5 ≤ LIM by decide)
  unfold gAsg
  rw [hl]
  rfl
theorem l_call {cc : Fn} {f : Sem1 (List D)} {S0 : S} {x y res w : D} {pt : Pt} (hf : f S0 = some ([x, y], S0)) (hp : S0.pot = pt) (hc : cc [x, y] pt = some (res, pt)) : eCall cc [0, 1] [w] f S0 = some (res, S0) := by
  subst hp
  unfold eCall
  rw [hf]
  show (match cc [x, y] S0.pot with
    | some (d, pt) => some (d, { S0 with pot := pt })
    | none => none) = _
  rw [hc]
theorem two_right (T : Two CR a b c d p q r s g h) : c__law_two_right CR [.tup [.int a, .int b], .tup [.int c, .int d]] pt = some (.bl true, pt) := by
  have sb : b.natAbs < 2 ^ 8900 := Nat.lt_trans T.zb (Nat.pow_lt_pow_right (by decide) (by decide))
  have sd : d.natAbs < 2 ^ 8900 := Nat.lt_trans T.zd (Nat.pow_lt_pow_right (by decide) (by decide))
  have n1 := init_ok CR a b pt T.b0 sb
  have n2 := init_ok CR c d pt T.d0 sd
  rw [T.f1] at n1
  rw [T.f2] at n2
  unfold c__law_two_right fnB b__law_two_right
  have s1 : gPar 2 3 (aCons (eCall (c_Ratio___init__ CR) [0, 1] [.int 1] (aCons (e2 gIx (eVarB 0) (eC (.int 0))) (aCons (e2 gIx (eVarB 0) (eC (.int 1))) aNil))) (aCons (eCall (c_Ratio___init__ CR) [0, 1] [.int 1] (aCons (e2 gIx (eVarB 1) (eC (.int 0))) (aCons (e2 gIx (eVarB 1) (eC (.int 1))) aNil))) aNil)) (atD 10 [.tup [.int a, .int b], .tup [.int c, .int d]] pt)
      = some (.nx ⟨[.sh (.tup [.int a, .int b]), .sh (.tup [.int c, .int d]), .sh (mk CR p q), .sh (mk CR r s), .un, .un, .un, .un, .un, .un], pt⟩) := by
    have hc := cons1 (l_call (w := .int 1) (pt := pt) (S0 := ⟨[.sh (.tup [.int a, .int b]), .sh (.tup [.int c, .int d]), .un, .un, .un, .un, .un, .un, .un, .un], pt⟩) (f := aCons (e2 gIx (eVarB 0) (eC (.int 0))) (aCons (e2 gIx (eVarB 0) (eC (.int 1))) aNil)) rfl rfl n1) (cons1 (l_call (w := .int 1) (pt := pt) (S0 := ⟨[.sh (.tup [.int a, .int b]), .sh (.tup [.int c, .int d]), .un, .un, .un, .un, .un, .un, .un, .un], pt⟩) (f := aCons (e2 gIx (eVarB 1) (eC (.int 0))) (aCons (e2 gIx (eVarB 1) (eC (.int 1))) aNil)) rfl rfl n2) (rfl : aNil _ = some ([], _)))
    show (match aCons (eCall (c_Ratio___init__ CR) [0, 1] [.int 1] (aCons (e2 gIx (eVarB 0) (eC (.int 0))) (aCons (e2 gIx (eVarB 0) (eC (.int 1))) aNil))) (aCons (eCall (c_Ratio___init__ CR) [0, 1] [.int 1] (aCons (e2 gIx (eVarB 1) (eC (.int 0))) (aCons (e2 gIx (eVarB 1) (eC (.int 1))) aNil))) aNil) (atD 10 [.tup [.int a, .int b], .tup [.int c, .int d]] pt) with
      | some ([d, e], s1) => some (Fl.nx { s1 with sl := (s1.sl.set 2 (.sh d)).set 3 (.sh e) })
      | _ => none) = _
    rw [show atD 10 [.tup [.int a, .int b], .tup [.int c, .int d]] pt = ⟨[.sh (.tup [.int a, .int b]), .sh (.tup [.int c, .int d]), .un, .un, .un, .un, .un, .un, .un, .un], pt⟩ from rfl, hc]
    rfl
  have s2 : gAsg (eTup (aCons (eVar 0) (aCons (eVar 1) aNil))) (tgTup 2 (tgCons (tgTup 2 (tgCons (tgName 4) (tgCons (tgName 5) tgNil))) (tgCons (tgTup 2 (tgCons (tgName 6) (tgCons (tgName 7) tgNil))) tgNil))) ⟨[.sh (.tup [.int a, .int b]), .sh (.tup [.int c, .int d]), .sh (mk CR p q), .sh (mk CR r s), .un, .un, .un, .un, .un, .un], pt⟩
      = some (.nx (sT CR (.sh (.tup [.int a, .int b])) (.sh (.tup [.int c, .int d])) a b c d p q r s .un .un pt)) := by
    rfl
  obtain ⟨t, ht⟩ := repr5 (decide (bel a b c d < 0)) (decide (bel a b c d ≤ 0)) (decide (0 < bel a b c d)) (decide (bel a b c d = 0)) (!decide (bel a b c d = 0))
  rw [seq_nx s1, seq_nx s2, seq_nx (if1 CR pt T), seq_nx (if2 CR pt T), seq_nx (if3 CR pt T), seq_nx (bel_v CR pt T), seq_nx (told_v CR pt T)]
  generalize hS : sT CR (.sh (.tup [.int a, .int b])) (.sh (.tup [.int c, .int d])) a b c d p q r s (.sh (.int (bel a b c d))) (.sh (.lst [.bl (decide (bel a b c d < 0)), .bl (decide (bel a b c d ≤ 0)), .bl (decide (0 < bel a b c d)), .bl (decide (bel a b c d = 0)), .bl (!decide (bel a b c d = 0))])) pt = S1
  have v8 : eVarB 8 S1 = some (.int (bel a b c d), S1) := by rw [← hS]; rfl
  have v9 : eVar 9 S1 = some (.lst [.bl (decide (bel a b c d < 0)), .bl (decide (bel a b c d ≤ 0)), .bl (decide (0 < bel a b c d)), .bl (decide (bel a b c d = 0)), .bl (!decide (bel a b c d = 0))], S1) := by rw [← hS]; rfl
  have hl := lst1 (cons1 (town v8 tC (show gLt (.int (bel a b c d)) (.int 0) = some (.bl (decide (bel a b c d < 0))) from rfl)) (cons1 (town v8 tC (show gLe (.int (bel a b c d)) (.int 0) = some (.bl (decide (bel a b c d ≤ 0))) from rfl)) (cons1 (town v8 tC (show gGt (.int (bel a b c d)) (.int 0) = some (.bl (decide (0 < bel a b c d))) from rfl)) (cons1 (town v8 tC (show gSEq false (.int (bel a b c d)) (.int 0) = some (.bl (decide (bel a b c d = 0))) from rfl)) (cons1 (town v8 tC (show gSEq true (.int (bel a b c d)) (.int 0) = some (.bl (!decide (bel a b c d = 0))) from rfl)) (show aNil S1 = some ([], S1) from rfl)))))) (show 5 ≤ LIM by decide)
  have hr := town (G := gSEq false) (town1 v9 ht) (town1 hl ht) (show gSEq false (.str t) (.str t) = some (.bl true) by simp [gSEq, outB])
  have hp : S1.pot = pt := by rw [← hS]; rfl
  unfold gSeq gRet
  rw [hr]
  simp only [hp]
end
end G11
end
section
set_option linter.all false
set_option maxRecDepth 100000
set_option maxHeartbeats 2000000
set_option exponentiation.threshold 20000
namespace G11
open PySem VS
theorem b1_le {x y : Int} (h : x.natAbs ≤ y.natAbs) (hy : B1 y) : B1 x := Nat.lt_of_le_of_lt h hy
theorem two_mk (CR : Addr) {a b c d : Int} (ha : B1 a) (hb : B1 b) (hc : B1 c) (hd : B1 d) (b0 : b ≠ 0) (d0 : d ≠ 0) : ∃ p q r s g h, Two CR a b c d p q r s g h := by
  obtain ⟨p, q, g, e1, L, a1, a2, g0, l1, l2⟩ := rat_low CR (a := a) b0
  obtain ⟨r, s, h, e2, M, a3, a4, h0, l3, l4⟩ := rat_low CR (a := c) d0
  exact ⟨p, q, r, s, g, h, e1, e2, a1, a2, a3, a4, g0, h0, b0, d0, L.1, M.1, L, M, ha, hb, hc, hd, b1_le l1 ha, b1_le l2 hb, b1_le l3 hc, b1_le l4 hd⟩
theorem two_ok (CR : Addr) {a b c d : Int} (pt : Pt) (ha : Bd a) (hb : Bd b) (hc : Bd c) (hd : Bd d) (b0 : b ≠ 0) (d0 : d ≠ 0) : c__law_two_right CR [.tup [.int a, .int b], .tup [.int c, .int d]] pt = some (.bl true, pt) := by
  obtain ⟨p, q, r, s, g, h, T⟩ := two_mk CR (bd_b1 ha) (bd_b1 hb) (bd_b1 hc) (bd_b1 hd) b0 d0
  exact two_right CR pt T
end G11
end
section
set_option linter.all false
set_option maxRecDepth 100000
set_option maxHeartbeats 2000000
set_option exponentiation.threshold 20000
namespace G11
open PySem VS
/-- what _law_whole_right leans on -/
structure One (CR : Addr) (a b w p q g : Int) : Prop where
  f1 : rat CR a b = mk CR p q
  ea : a = g * p
  eb : b = g * q
  g0 : g ≠ 0
  b0 : b ≠ 0
  q1 : 1 ≤ q
  L : Low p q
  za : B1 a
  zb : B1 b
  zw : B1 w
  zp : B1 p
  zq : B1 q
section
variable (CR : Addr) {a b w p q g : Int} {u z : Sl} (pt : Pt)
def sW (u : Sl) (a b w p q : Int) (z : Sl) (pt : Pt) : S := ⟨[u, .sh (.int w), .sh (mk CR p q), .sh (.int a), .sh (.int b), z], pt⟩
theorem w1 : eVar 1 (sW CR u a b w p q z pt) = some (.int w, sW CR u a b w p q z pt) := rfl
theorem w1B : eVarB 1 (sW CR u a b w p q z pt) = some (.int w, sW CR u a b w p q z pt) := rfl
theorem w2 : eVar 2 (sW CR u a b w p q z pt) = some (mk CR p q, sW CR u a b w p q z pt) := rfl
theorem w3 : eVar 3 (sW CR u a b w p q z pt) = some (.int a, sW CR u a b w p q z pt) := rfl
theorem w3B : eVarB 3 (sW CR u a b w p q z pt) = some (.int a, sW CR u a b w p q z pt) := rfl
theorem w4 : eVar 4 (sW CR u a b w p q z pt) = some (.int b, sW CR u a b w p q z pt) := rfl
theorem w4B : eVarB 4 (sW CR u a b w p q z pt) = some (.int b, sW CR u a b w p q z pt) := rfl
theorem One.k {CR : Addr} (T : One CR a b w p q g) : ok4 p q w 1 := ⟨b1_sm T.zp, b1_sm T.zq, b1_sm T.zw, b1_sm (show B1 1 by unfold B1; decide), by have := T.q1; omega, by decide⟩
theorem One.qs {CR : Addr} (T : One CR a b w p q g) : q * 1 ≠ 0 := by have := T.q1; omega
theorem b1_one : B1 1 := by unfold B1; decide
theorem wif1 (T : One CR a b w p q g) :
    gIf (eOrT (eNotT (eT (eCall (c__law_is CR) [0, 1, 2] [] (aCons (e2 (gOwn2 CR (cf_Ratio___add__ CR) (cf_Ratio___radd__ CR)) (eVar 2) (eVar 1)) (aCons (e2 gAdd (eVarB 3) (e2 gMul (eVarB 1) (eVarB 4))) (aCons (eVar 4) aNil)))))) (eOrT (eNotT (eT (eCall (c__law_is CR) [0, 1, 2] [] (aCons (e2 (gOwn2 CR (cf_Ratio___add__ CR) (cf_Ratio___radd__ CR)) (eVar 1) (eVar 2)) (aCons (e2 gAdd (eVarB 3) (e2 gMul (eVarB 1) (eVarB 4))) (aCons (eVar 4) aNil)))))) (eNotT (eT (eCall (c__law_is CR) [0, 1, 2] [] (aCons (e2 (gOwn2 CR (cf_Ratio___sub__ CR) (cf_Ratio___rsub__ CR)) (eVar 1) (eVar 2)) (aCons (e2 gSub (e2 gMul (eVarB 1) (eVarB 4)) (eVarB 3)) (aCons (eVar 4) aNil)))))))) (gSeq (gRet (eC (.bl false)))
    gNil) gNil (sW CR u a b w p q z pt) = some (.nx (sW CR u a b w p q z pt)) := by
  have za2 : (a * 1).natAbs < 2 ^ 320 := b1_mul T.za b1_one
  have wa := tadd (w3B CR pt (u := u) (a := a) (b := b) (w := w) (p := p) (q := q) (z := z)) (tmul (w1B CR pt) (w4B CR pt) (b1_cm T.zw T.zb))
  have ws := tsub (tmul (w1B CR pt (u := u) (a := a) (b := b) (w := w) (p := p) (q := q) (z := z)) (w4B CR pt) (b1_cm T.zw T.zb)) (w3B CR pt)
  rw [Int.mul_one] at za2
  refine if_no (or2 (not2 ?_) (or2 (not2 ?_) (not2 ?_)))
  · exact l_is CR (town (w2 CR pt) (w1 CR pt) ((own_int CR).trans (op2_int CR _ T.k))) wa (w4 CR pt) T.qs (by rw [T.ea, T.eb]; grind) (b3_9 (b2_add (b1_mul T.zp b1_one) (b1_mul T.zw T.zq))) (b2_9 (b1_mul T.zq b1_one)) (b3_9 (b2_add za2 (b1_mul T.zw T.zb))) (b1_9 T.zb)
  · exact l_is CR (town (w1 CR pt) (w2 CR pt) ((own_tni CR).trans (op2_int CR _ T.k))) wa (w4 CR pt) T.qs (by rw [T.ea, T.eb]; grind) (b3_9 (b2_add (b1_mul T.zp b1_one) (b1_mul T.zw T.zq))) (b2_9 (b1_mul T.zq b1_one)) (b3_9 (b2_add za2 (b1_mul T.zw T.zb))) (b1_9 T.zb)
  · exact l_is CR (town (w1 CR pt) (w2 CR pt) ((own_tni CR).trans (op2_int CR _ T.k))) ws (w4 CR pt) T.qs (by rw [T.ea, T.eb]; grind) (b3_9 (b2_sub (b1_mul T.zw T.zq) (b1_mul T.zp b1_one))) (b2_9 (b1_mul T.zq b1_one)) (b3_9 (b2_sub (b1_mul T.zw T.zb) za2)) (b1_9 T.zb)
end
end G11
end
section
set_option linter.all false
set_option maxRecDepth 100000
set_option maxHeartbeats 2000000
set_option exponentiation.threshold 20000
namespace G11
open PySem VS
section
variable (CR : Addr) {a b w p q g : Int} {u z : Sl} (pt : Pt)
theorem wif2 (T : One CR a b w p q g) :
    gIf (eOrT (eNotT (eT (eCall (c__law_is CR) [0, 1, 2] [] (aCons (e2 (gOwn2 CR (cf_Ratio___sub__ CR) (cf_Ratio___rsub__ CR)) (eVar 2) (eVar 1)) (aCons (e2 gSub (eVarB 3) (e2 gMul (eVarB 1) (eVarB 4))) (aCons (eVar 4) aNil)))))) (eOrT (eNotT (eT (eCall (c__law_is CR) [0, 1, 2] [] (aCons (e2 (gOwn2 CR (cf_Ratio___mul__ CR) (cf_Ratio___rmul__ CR)) (eVar 1) (eVar 2)) (aCons (e2 gMul (eVarB 1) (eVarB 3)) (aCons (eVar 4) aNil)))))) (eNotT (eT (eCall (c__law_is CR) [0, 1, 2] [] (aCons (e2 (gOwn2 CR (cf_Ratio___mul__ CR) (cf_Ratio___rmul__ CR)) (eVar 2) (eVar 1)) (aCons (e2 gMul (eVarB 1) (eVarB 3)) (aCons (eVar 4) aNil)))))))) (gSeq (gRet (eC (.bl false)))
    gNil) gNil (sW CR u a b w p q z pt) = some (.nx (sW CR u a b w p q z pt)) := by
  have za2 : (a * 1).natAbs < 2 ^ 320 := b1_mul T.za b1_one
  have ws := tsub (w3B CR pt (u := u) (a := a) (b := b) (w := w) (p := p) (q := q) (z := z)) (tmul (w1B CR pt) (w4B CR pt) (b1_cm T.zw T.zb))
  have wm := tmul (w1B CR pt (u := u) (a := a) (b := b) (w := w) (p := p) (q := q) (z := z)) (w3B CR pt) (b1_cm T.zw T.za)
  rw [Int.mul_one] at za2
  refine if_no (or2 (not2 ?_) (or2 (not2 ?_) (not2 ?_)))
  · exact l_is CR (town (w2 CR pt) (w1 CR pt) ((own_int CR).trans (op2_int CR _ T.k))) ws (w4 CR pt) T.qs (by rw [T.ea, T.eb]; grind) (b3_9 (b2_sub (b1_mul T.zp b1_one) (b1_mul T.zw T.zq))) (b2_9 (b1_mul T.zq b1_one)) (b3_9 (b2_sub za2 (b1_mul T.zw T.zb))) (b1_9 T.zb)
  · exact l_is CR (town (w1 CR pt) (w2 CR pt) ((own_tni CR).trans (op2_int CR _ T.k))) wm (w4 CR pt) T.qs (by rw [T.ea, T.eb]; grind) (b2_9 (b1_mul T.zp T.zw)) (b2_9 (b1_mul T.zq b1_one)) (b2_9 (b1_mul T.zw T.za)) (b1_9 T.zb)
  · exact l_is CR (town (w2 CR pt) (w1 CR pt) ((own_int CR).trans (op2_int CR _ T.k))) wm (w4 CR pt) T.qs (by rw [T.ea, T.eb]; grind) (b2_9 (b1_mul T.zp T.zw)) (b2_9 (b1_mul T.zq b1_one)) (b2_9 (b1_mul T.zw T.za)) (b1_9 T.zb)
theorem wif3 (T : One CR a b w p q g) :
    gIf (eAndT (eT (e2 (gSEq true) (eVarB 1) (eC (.int 0)))) (eNotT (eT (eCall (c__law_is CR) [0, 1, 2] [] (aCons (eM "over" CR (c_Ratio_over CR) [0, 1] [] (eVar 2) (aCons (eVar 1) aNil)) (aCons (eVar 3) (aCons (e2 gMul (eVarB 4) (eVarB 1)) aNil))))))) (gSeq (gRet (eC (.bl false)))
    gNil) gNil (sW CR u a b w p q z pt) = some (.nx (sW CR u a b w p q z pt)) := by
  have ht : eT (e2 (gSEq true) (eVarB 1) (eC (.int 0))) (sW CR u a b w p q z pt) = some (outB true (decide (w = 0)), sW CR u a b w p q z pt) := by
    simp [eT, e2, w1B, tC, gSEq]
  refine if_no (and_no ht fun hc => ?_)
  refine not2 ?_
  have hr : w ≠ 0 := by simpa [outB] using hc
  have hz : q * w ≠ 0 := Int.mul_ne_zero (by have := T.q1; omega) hr
  have sz : (q * w).natAbs < 2 ^ 8900 := Nat.lt_trans (b1_mul T.zq T.zw) (Nat.pow_lt_pow_right (by decide) (by decide))
  have ho := over_ok CR (p := p) (q := q) pt (show num CR (.int w) = some (w, 1) from rfl) (b1_cm T.zp b1_one) (b1_cm T.zq T.zw) hr hz sz
  have hM := l_eM CR (m := "over") (S0 := sW CR u a b w p q z pt) (by decide) (w2 CR pt) (w1 CR pt) ho
  exact l_is CR hM (w3 CR pt) (tmul (w4B CR pt) (w1B CR pt) (b1_cm T.zb T.zw)) hz (by rw [T.ea, T.eb]; grind) (b2_9 (b1_mul T.zp b1_one)) (b2_9 (b1_mul T.zq T.zw)) (b1_9 T.za) (b2_9 (b1_mul T.zb T.zw))
end
end G11
end
section
set_option linter.all false
set_option maxRecDepth 100000
set_option maxHeartbeats 2000000
set_option exponentiation.threshold 20000
namespace G11
open PySem VS
section
variable (CR : Addr) {a b w p q g : Int} {u z : Sl} (pt : Pt)
def belW (a b w : Int) : Int := (a - w * b) * b
theorem One.sg {CR : Addr} (T : One CR a b w p q g) : ∃ k : Int, 0 < k ∧ belW a b w = k * (p * 1 - w * q) := by
  obtain ⟨k, k0, e⟩ := below_sign (p := p) (r := w) (h := 1) (s := 1) T.g0 (by decide) T.q1 (by decide)
  refine ⟨k, k0, ?_⟩
  rw [← e, belW, T.ea, T.eb]
  grind
theorem One.lt {CR : Addr} (T : One CR a b w p q g) : (p * 1 < w * q) ↔ belW a b w < 0 := by
  obtain ⟨k, k0, e⟩ := T.sg
  rw [e]
  generalize p * 1 = x
  generalize w * q = y
  constructor
  · intro l
    exact Int.mul_neg_of_pos_of_neg k0 (by omega)
  · intro l
    apply Decidable.byContradiction
    intro n
    have := Int.mul_nonneg (Int.le_of_lt k0) (show 0 ≤ x - y by omega)
    omega
theorem One.le {CR : Addr} (T : One CR a b w p q g) : (p * 1 ≤ w * q) ↔ belW a b w ≤ 0 := by
  obtain ⟨k, k0, e⟩ := T.sg
  rw [e]
  generalize p * 1 = x
  generalize w * q = y
  constructor
  · intro l
    have := Int.mul_nonneg (Int.le_of_lt k0) (show 0 ≤ y - x by omega)
    have e2 : k * (y - x) = - (k * (x - y)) := by grind
    omega
  · intro l
    apply Decidable.byContradiction
    intro n
    have := Int.mul_pos k0 (show 0 < x - y by omega)
    omega
end
end G11
end
section
set_option linter.all false
set_option maxRecDepth 100000
set_option maxHeartbeats 2000000
set_option exponentiation.threshold 20000
namespace G11
open PySem VS
section
variable (CR : Addr) {a b w p q g : Int} {u z : Sl} (pt : Pt)
theorem wbel (T : One CR a b w p q g) : gAsg (e2 gMul (e2 gSub (eVarB 3) (e2 gMul (eVarB 1) (eVarB 4))) (eVarB 4)) (tgName 5) (sW CR u a b w p q z pt) = some (.nx (sW CR u a b w p q (.sh (.int (belW a b w))) pt)) := by
  have za2 : (a * 1).natAbs < 2 ^ 320 := b1_mul T.za b1_one
  rw [Int.mul_one] at za2
  have hv := tmul (tsub (w3B CR pt (u := u) (a := a) (b := b) (w := w) (p := p) (q := q) (z := z)) (tmul (w1B CR pt) (w4B CR pt) (b1_cm T.zw T.zb))) (w4B CR pt) (b9_mul (b3_9 (b2_sub za2 (b1_mul T.zw T.zb))) (b1_9 T.zb))
  unfold gAsg
  rw [hv]
  rfl
end
end G11
end
section
set_option linter.all false
set_option maxRecDepth 100000
set_option maxHeartbeats 2000000
set_option exponentiation.threshold 20000
namespace G11
open PySem VS
section
variable (CR : Addr) {a b w p q g : Int} {u z : Sl} (pt : Pt)
theorem eq_di {i : Int} : gEqD false (dqT (oe CR) 1) (mk CR p q) (.int i) = some (.bl false) := by
  have h : oe CR (mk CR p q) (.int i) = some false := by
    unfold oe
    rw [insD_mk]
  have h2 : dqT (oe CR) 1 (mk CR p q) (.int i) = some false := h
  unfold gEqD
  rw [h2]
  rfl
end
end G11
end
section
set_option linter.all false
set_option maxRecDepth 100000
set_option maxHeartbeats 2000000
set_option exponentiation.threshold 20000
namespace G11
open PySem VS
section
variable (CR : Addr) {a b w p q g : Int} {u z : Sl} (pt : Pt)
theorem wif4 (T : One CR a b w p q g) :
    gIf (eOrT (eNotT (eT (eCall (c__law_is CR) [0, 1, 2] [] (aCons (eCall (c_Ratio___init__ CR) [0, 1] [.int 1] (aCons (eVar 1) aNil)) (aCons (eVar 1) (aCons (eC (.int 1)) aNil)))))) (eT (e2 gNotB (e2 (gEqD false (dqT (oe CR) 1)) (eVar 2) (eVar 1)) (eC (.bl false))))) (gSeq (gRet (eC (.bl false)))
    gNil) gNil (sW CR u a b w p q z pt) = some (.nx (sW CR u a b w p q z pt)) := by
  have hi := init_ok CR w 1 pt (by decide) (by decide)
  have hX : eCall (c_Ratio___init__ CR) [0, 1] [.int 1] (aCons (eVar 1) aNil) (sW CR u a b w p q z pt) = some (rat CR w 1, sW CR u a b w p q z pt) := by
    unfold eCall
    rw [cons1 (w1 CR pt) (show aNil (sW CR u a b w p q z pt) = some ([], _) from rfl)]
    show (match c_Ratio___init__ CR [.int w, .int 1] pt with
      | some (d, pt) => some (d, { (sW CR u a b w p q z pt) with pot := pt })
      | none => none) = _
    rw [hi]
    rfl
  refine if_no (or2 (not2 ?_) ?_)
  · exact l_is CR hX (w1 CR pt) tC (by decide) rfl (b1_9 T.zw) (b1_9 b1_one) (b1_9 T.zw) (b1_9 b1_one)
  · have h := town (G := gNotB) (z := .bl false) (town (w2 CR pt (u := u) (a := a) (b := b) (w := w) (p := p) (q := q) (z := z)) (w1 CR pt) (eq_di CR)) (tC (x := .bl false)) rfl
    unfold eT
    rw [h]
end
end G11
end
section
set_option linter.all false
set_option maxRecDepth 100000
set_option maxHeartbeats 2000000
set_option exponentiation.threshold 20000
namespace G11
open PySem VS
theorem repb2 (x1 x2 : Bool) : ∃ T, gReprL (.lst [.bl x1, .bl x2]) = some (.str T) := by
  cases x1 <;> cases x2 <;> exact ⟨_, rfl⟩
section
variable (CR : Addr) {a b w p q g : Int} {u z : Sl} (pt : Pt)
theorem wtold (T : One CR a b w p q g) : (gSeq (gRet (e2 (gSEq false) (e1 gReprL (eLst (aCons (eM "is_below" CR (c_Ratio_is_below CR) [0, 1] [] (eVar 2) (aCons (eVar 1) aNil)) (aCons (eM "is_at_most" CR (c_Ratio_is_at_most CR) [0, 1] [] (eVar 2) (aCons (eVar 1) aNil)) aNil)))) (e1 gReprL (eLst (aCons (e2 gLt (eVarB 5) (eC (.int 0))) (aCons (e2 gLe (eVarB 5) (eC (.int 0))) aNil)))))) gNil) (sW CR u a b w p q (.sh (.int (belW a b w))) pt) = some (.rt (.bl true) pt) := by
  have h1 := l_eM CR (m := "is_below") (S0 := sW CR u a b w p q (.sh (.int (belW a b w))) pt) (by decide) (w2 CR pt) (w1 CR pt) (below_ok CR pt (show num CR (.int w) = some (w, 1) from rfl) (b1_cm T.zp b1_one) (b1_cm T.zw T.zq))
  have h2 := l_eM CR (m := "is_at_most") (S0 := sW CR u a b w p q (.sh (.int (belW a b w))) pt) (by decide) (w2 CR pt) (w1 CR pt) (most_ok CR pt (show num CR (.int w) = some (w, 1) from rfl) (b1_cm T.zp b1_one) (b1_cm T.zw T.zq))
  rw [show decide (p * 1 < w * q) = decide (belW a b w < 0) from decide_eq_decide.mpr T.lt] at h1
  rw [show decide (p * 1 ≤ w * q) = decide (belW a b w ≤ 0) from decide_eq_decide.mpr T.le] at h2
  obtain ⟨t, ht⟩ := repb2 (decide (belW a b w < 0)) (decide (belW a b w ≤ 0))
  generalize hS : sW CR u a b w p q (.sh (.int (belW a b w))) pt = S1 at h1 h2
  have v5 : eVarB 5 S1 = some (.int (belW a b w), S1) := by rw [← hS]; rfl
  have hn : aNil S1 = some ([], S1) := rfl
  have hl := lst1 (cons1 (town v5 tC (show gLt (.int (belW a b w)) (.int 0) = some (.bl (decide (belW a b w < 0))) from rfl)) (cons1 (town v5 tC (show gLe (.int (belW a b w)) (.int 0) = some (.bl (decide (belW a b w ≤ 0))) from rfl)) hn)) (show 2 ≤ LIM by decide)
  have hm := lst1 (cons1 h1 (cons1 h2 hn)) (show 2 ≤ LIM by decide)
  have hr := town (G := gSEq false) (town1 hm ht) (town1 hl ht) (show gSEq false (.str t) (.str t) = some (.bl true) by simp [gSEq, outB])
  have hp : S1.pot = pt := by rw [← hS]; rfl
  unfold gSeq gRet
  rw [hr]
  simp only [hp]
end
end G11
end
section
set_option linter.all false
set_option maxRecDepth 100000
set_option maxHeartbeats 2000000
set_option exponentiation.threshold 20000
namespace G11
open PySem VS
section
variable (CR : Addr) {a b w p q g : Int} (pt : Pt)
theorem whole_right (T : One CR a b w p q g) : c__law_whole_right CR [.tup [.int a, .int b], .int w] pt = some (.bl true, pt) := by
  have sb : b.natAbs < 2 ^ 8900 := Nat.lt_trans T.zb (Nat.pow_lt_pow_right (by decide) (by decide))
  have n1 := init_ok CR a b pt T.b0 sb
  rw [T.f1] at n1
  unfold c__law_whole_right fnB b__law_whole_right
  have hc := cons1 (l_call (w := .int 1) (pt := pt) (S0 := ⟨[.sh (.tup [.int a, .int b]), .sh (.int w), .un, .un, .un, .un], pt⟩) (f := aCons (e2 gIx (eVarB 0) (eC (.int 0))) (aCons (e2 gIx (eVarB 0) (eC (.int 1))) aNil)) rfl rfl n1) (cons1 (f := eVar 0) (x := .tup [.int a, .int b]) rfl (rfl : aNil _ = some ([], _)))
  have s1 : gAsg (eTup (aCons (eCall (c_Ratio___init__ CR) [0, 1] [.int 1] (aCons (e2 gIx (eVarB 0) (eC (.int 0))) (aCons (e2 gIx (eVarB 0) (eC (.int 1))) aNil))) (aCons (eVar 0) aNil))) (tgTup 2 (tgCons (tgName 2) (tgCons (tgTup 2 (tgCons (tgName 3) (tgCons (tgName 4) tgNil))) tgNil))) (atD 6 [.tup [.int a, .int b], .int w] pt)
      = some (.nx (sW CR (.sh (.tup [.int a, .int b])) a b w p q .un pt)) := by
    rw [show atD 6 [.tup [.int a, .int b], .int w] pt = ⟨[.sh (.tup [.int a, .int b]), .sh (.int w), .un, .un, .un, .un], pt⟩ from rfl]
    unfold gAsg eTup
    rw [hc]
    rfl
  rw [seq_nx s1, seq_nx (wif1 CR pt T), seq_nx (wif2 CR pt T), seq_nx (wif3 CR pt T), seq_nx (wif4 CR pt T), seq_nx (wbel CR pt T), wtold CR pt T]
end
theorem whole_ok2 (CR : Addr) {a b w : Int} (pt : Pt) (ha : B1 a) (hb : B1 b) (hw : B1 w) (b0 : b ≠ 0) : c__law_whole_right CR [.tup [.int a, .int b], .int w] pt = some (.bl true, pt) := by
  obtain ⟨p, q, g, e1, L, a1, a2, g0, l1, l2⟩ := rat_low CR (a := a) b0
  exact whole_right CR pt ⟨e1, a1, a2, g0, b0, L.1, L, ha, hb, hw, b1_le l1 ha, b1_le l2 hb⟩
end G11
end
section
set_option linter.all false
set_option maxRecDepth 100000
set_option exponentiation.threshold 20000
namespace G11
open PySem VS
/-- equal across, equal data -/
theorem rat_eq (CR : Addr) {P Q A B : Int} (hQ : Q ≠ 0) (hB : B ≠ 0) (e : P * B = A * Q) : rat CR P Q = rat CR A B := by
  obtain ⟨p, q, g, e1, L, a1, a2, g0, _, _⟩ := rat_low CR (a := P) hQ
  obtain ⟨r, s, h, e2, M, a3, a4, h0, _, _⟩ := rat_low CR (a := A) hB
  have k : p * s = r * q := by
    have h1 : (g * h) * (p * s) = (g * h) * (r * q) := by
      have : (g * p) * (h * s) = (h * r) * (g * q) := by rw [← a1, ← a2, ← a3, ← a4]; exact e
      grind
    exact Int.eq_of_mul_eq_mul_left (Int.mul_ne_zero g0 h0) h1
  obtain ⟨x, y⟩ := low_uniq L M k
  rw [e1, e2, x, y]
end G11
end
section
set_option linter.all false
set_option maxRecDepth 100000
set_option exponentiation.threshold 20000
namespace G11
open PySem VS
section
variable (CR : Addr) {p q w : Int} (pt : Pt)
theorem isi_mk {l : List Sl} : eIsi (kCls [CR] CR) (eVarB 0) ⟨.sh (mk CR p q) :: l, pt⟩ = some (.bl true, ⟨.sh (mk CR p q) :: l, pt⟩) := l_isi CR _ _ _ _
theorem want_mk : c_want_number CR [mk CR p q] pt = some (mk CR p q, pt) := by
  have hn : c_is_number CR [mk CR p q] pt = some (.bl true, pt) := by
    have h := isint_mk CR p q pt
    have h2 := l_isi CR p q [] pt
    simp [c_is_number, fnB, b_is_number, gSeq, gRet, eOr, eCall, aCons, aNil, eVar, atD, pick, h, h2, gNil]
  have hr : c_ratio_of CR [mk CR p q] pt = some (mk CR p q, pt) := by
    have h2 := l_isi CR p q [] pt
    simp [c_ratio_of, fnB, b_ratio_of, gSeq, gRet, eIf, eT, eVar, atD, h2]
  simp [c_want_number, fnB, b_want_number, gSeq, gIf, eNotT, eT, gRet, eCall, aCons, aNil, eVar, atD, pick, hn, hr, gNil]
theorem want_int : c_want_number CR [.int w] pt = some (rat CR w 1, pt) := by
  have hn : c_is_number CR [.int w] pt = some (.bl true, pt) := by
    have h := isint_int CR w pt
    simp [c_is_number, fnB, b_is_number, gSeq, gRet, eOr, eCall, aCons, aNil, eVar, atD, pick, h, gNil]
  have hr : c_ratio_of CR [.int w] pt = some (rat CR w 1, pt) := by
    have hi := init_ok CR w 1 pt (by decide) (by decide)
    simp [c_ratio_of, fnB, b_ratio_of, gSeq, gRet, eIf, eT, eIsi, kCls, eVarB, eVar, eCall, aCons, aNil, pick, atD, hi]
  simp [c_want_number, fnB, b_want_number, gSeq, gIf, eNotT, eT, gRet, eCall, aCons, aNil, eVar, atD, pick, hn, hr, gNil]
end
end G11
end
section
set_option linter.all false
set_option maxRecDepth 100000
set_option exponentiation.threshold 20000
namespace G11
open PySem VS
/-- sizes after k rounds -/
def Bk (k : Nat) (a : Int) : Prop := a.natAbs < 2 ^ (170 * k + 10)
theorem bk_9 {k : Nat} {a : Int} (h : Bk k a) (hk : k ≤ 5) : B9 a := Nat.lt_of_lt_of_le h (Nat.pow_le_pow_right (by decide) (by omega))
theorem bk_sm {k : Nat} {a : Int} (h : Bk k a) (hk : k ≤ 5) : Sm a := Nat.lt_of_lt_of_le h (Nat.pow_le_pow_right (by decide) (by omega))
theorem bk_mul {k : Nat} {a b : Int} (ha : Bk k a) (hb : B1 b) : (a * b).natAbs < 2 ^ (170 * k + 170) := by
  rw [Int.natAbs_mul, show 170 * k + 170 = (170 * k + 10) + 160 from by omega, Nat.pow_add]
  exact Nat.mul_lt_mul'' ha hb
theorem bk_up {k : Nat} {a : Int} (ha : a.natAbs < 2 ^ (170 * k + 170)) : Bk (k + 1) a := Nat.lt_of_lt_of_le ha (Nat.pow_le_pow_right (by decide) (by omega))
theorem bk_add {k : Nat} {a b : Int} (ha : a.natAbs < 2 ^ (170 * k + 170)) (hb : b.natAbs < 2 ^ (170 * k + 170)) : Bk (k + 1) (a + b) := by
  unfold Bk
  have e : 2 ^ (170 * k + 171) = 2 ^ (170 * k + 170) * 2 := Nat.pow_succ ..
  have l : 2 ^ (170 * k + 171) ≤ 2 ^ (170 * (k + 1) + 10) := Nat.pow_le_pow_right (by decide) (by omega)
  omega
/-- the sum of two, as data -/
theorem own_add (CR : Addr) {k : Nat} {T B a b : Int} (hk : k ≤ 5) (hT : Bk k T) (hB : Bk k B) (B0 : B ≠ 0) (ha : B1 a) (hb : B1 b) (b0 : b ≠ 0) :
    gOwn2 CR (cf_Ratio___add__ CR) (cf_Ratio___radd__ CR) (rat CR T B) (rat CR a b) = some (rat CR (T * b + a * B) (B * b)) := by
  obtain ⟨p, q, g, e1, L, a1, a2, g0, l1, l2⟩ := rat_low CR (a := T) B0
  obtain ⟨r, s, h, e2, M, a3, a4, h0, l3, l4⟩ := rat_low CR (a := a) b0
  have q1 := L.1
  have s1 := M.1
  have k4 : ok4 p q r s := ⟨bk_sm (Nat.lt_of_le_of_lt l1 hT) hk, bk_sm (Nat.lt_of_le_of_lt l2 hB) hk, b1_sm (b1_le l3 ha), b1_sm (b1_le l4 hb), by omega, by omega⟩
  rw [e1, e2, own_mk]
  refine (op2_mk CR _ k4).trans (congrArg some (rat_eq CR ?_ (Int.mul_ne_zero B0 b0) ?_))
  · exact Int.mul_ne_zero (by omega) (by omega)
  · rw [a1, a2, a3, a4]
    grind
end G11
end
section
set_option linter.all false
set_option maxRecDepth 100000
set_option exponentiation.threshold 20000
namespace G11
open PySem VS
/-- the law's own step of a sum -/
def stp (c x : Int × Int) : Int × Int := (c.1 * x.2 + x.1 * c.2, c.2 * x.2)
def Okp (x : Int × Int) : Prop := B1 x.1 ∧ B1 x.2 ∧ x.2 ≠ 0
def Okc (k : Nat) (c : Int × Int) : Prop := Bk k c.1 ∧ Bk k c.2 ∧ c.2 ≠ 0
def rp (CR : Addr) (x : Int × Int) : D := rat CR x.1 x.2
def totB (CR : Addr) : S → Option Fl := gSeq (gAsg (e2 (gOwn2 CR (cf_Ratio___add__ CR) (cf_Ratio___radd__ CR)) (eVar 1) (eVar 2)) (tgName 1)) gNil
theorem okc_stp {k : Nat} {c x : Int × Int} (h : Okc k c) (hx : Okp x) : Okc (k + 1) (stp c x) := by
  obtain ⟨h1, h2, h3⟩ := h
  obtain ⟨x1, x2, x3⟩ := hx
  refine ⟨bk_add (bk_mul h1 x2) ?_, bk_up (bk_mul h2 x2), Int.mul_ne_zero h3 x3⟩
  rw [Int.mul_comm]
  exact bk_mul h2 x1
/-- a call that leaves the state -/
theorem l_callG {cc : Fn} {is : List Nat} {dd ds xs : List D} {f : Sem1 (List D)} {S0 : S} {res : D} {pt : Pt} (hf : f S0 = some (ds, S0)) (hp : S0.pot = pt) (hx : pick is (ds ++ dd) = xs) (hc : cc xs pt = some (res, pt)) : eCall cc is dd f S0 = some (res, S0) := by
  subst hp
  subst hx
  unfold eCall
  rw [hf]
  show (match cc (pick is (ds ++ dd)) S0.pot with
    | some (d, pt) => some (d, { S0 with pot := pt })
    | none => none) = _
  rw [hc]
/-- a call that moves the pot -/
theorem l_callP {cc : Fn} {is : List Nat} {dd ds xs : List D} {f : Sem1 (List D)} {S0 : S} {res : D} {pt pt' : Pt} (hf : f S0 = some (ds, S0)) (hp : S0.pot = pt) (hx : pick is (ds ++ dd) = xs) (hc : cc xs pt = some (res, pt')) : eCall cc is dd f S0 = some (res, ⟨S0.sl, pt'⟩) := by
  subst hp
  subst hx
  unfold eCall
  rw [hf]
  show (match cc (pick is (ds ++ dd)) S0.pot with
    | some (d, pt) => some (d, { S0 with pot := pt })
    | none => none) = _
  rw [hc]
section
variable (CR : Addr) {c x : Int × Int} {k : Nat} (pt : Pt) (L : Sl)
theorem tot_step (hk : k ≤ 5) (h : Okc k c) (hx : Okp x) : totB CR ⟨[L, .sh (rp CR c), .sh (rp CR x)], pt⟩ = some (.nx ⟨[L, .sh (rp CR (stp c x)), .sh (rp CR x)], pt⟩) := by
  have o := own_add CR hk h.1 h.2.1 h.2.2 hx.1 hx.2.1 hx.2.2
  have t : e2 (gOwn2 CR (cf_Ratio___add__ CR) (cf_Ratio___radd__ CR)) (eVar 1) (eVar 2) ⟨[L, .sh (rp CR c), .sh (rp CR x)], pt⟩ = some (rp CR (stp c x), ⟨[L, .sh (rp CR c), .sh (rp CR x)], pt⟩) := town (x := rp CR c) (y := rp CR x) rfl rfl o
  unfold totB
  unfold gSeq gAsg
  rw [t]
  rfl
theorem tot_loop : ∀ (ps : List (Int × Int)) (k : Nat) (c : Int × Int) (q : Sl), k + ps.length ≤ 6 → Okc k c → (∀ x ∈ ps, Okp x) →
    ∃ q', gLoop (tgName 2) (totB CR) (ps.map (rp CR)) ⟨[L, .sh (rp CR c), q], pt⟩ = some (.nx ⟨[L, .sh (rp CR (ps.foldl stp c)), q'], pt⟩)
  | [], k, c, q, hk, h, hp => ⟨q, rfl⟩
  | x :: ps, k, c, q, hk, h, hp => by
    simp only [List.length_cons] at hk
    have hx := hp x (List.mem_cons_self ..)
    obtain ⟨q', r⟩ := tot_loop ps (k + 1) (stp c x) (.sh (rp CR x)) (by omega) (okc_stp h hx) (fun y hy => hp y (List.mem_cons_of_mem _ hy))
    refine ⟨q', ?_⟩
    rw [List.foldl_cons, ← r]
    have s := tot_step CR pt L (by omega) h hx
    have u : gLoop (tgName 2) (totB CR) (rp CR x :: ps.map (rp CR)) ⟨[L, .sh (rp CR c), q], pt⟩ = match totB CR ⟨[L, .sh (rp CR c), .sh (rp CR x)], pt⟩ with
      | some (.nx s2) => gLoop (tgName 2) (totB CR) (ps.map (rp CR)) s2
      | r => r := rfl
    rw [List.map_cons, u, s]
theorem okc0 : Okc 0 (0, 1) := ⟨(by decide : (0:Int).natAbs < 2 ^ 10), (by decide : (1:Int).natAbs < 2 ^ 10), by decide⟩
theorem total_of_ok (ps : List (Int × Int)) (hl : ps.length ≤ 5) (hp : ∀ x ∈ ps, Okp x) : c_total_of CR [.lst (ps.map (rp CR))] pt = some (rp CR (ps.foldl stp (0, 1)), pt) := by
  have i := init_ok CR 0 1 pt (by decide) (by decide)
  obtain ⟨q', r⟩ := tot_loop CR pt (.sh (.lst (ps.map (rp CR)))) ps 0 (0, 1) .un (by omega) okc0 hp
  have s1 : gAsg (eCall (c_Ratio___init__ CR) [0, 1] [.int 1] (aCons (eC (.int 0)) aNil)) (tgName 1) ⟨[.sh (.lst (ps.map (rp CR))), .un, .un], pt⟩ = some (.nx ⟨[.sh (.lst (ps.map (rp CR))), .sh (rp CR (0, 1)), .un], pt⟩) := by
    have c := l_callG (is := [0, 1]) (dd := [.int 1]) (pt := pt) (S0 := ⟨[.sh (.lst (ps.map (rp CR))), .un, .un], pt⟩) (f := aCons (eC (.int 0)) aNil) rfl rfl rfl i
    unfold gAsg
    rw [c]
    rfl
  have s2 : gFor (iL (eVar 0)) (tgName 2) (totB CR) ⟨[.sh (.lst (ps.map (rp CR))), .sh (rp CR (0, 1)), .un], pt⟩ = some (.nx ⟨[.sh (.lst (ps.map (rp CR))), .sh (rp CR (ps.foldl stp (0, 1))), q'], pt⟩) := r
  unfold c_total_of fnB b_total_of
  rw [show atD 3 [.lst (ps.map (rp CR))] pt = ⟨[.sh (.lst (ps.map (rp CR))), .un, .un], pt⟩ from rfl, seq_nx s1]
  have := seq_nx (g' := gSeq (gRet (eVar 1)) gNil) s2
  unfold totB at this
  rw [this]
  rfl
end
end G11
end
section
set_option linter.all false
set_option maxRecDepth 100000
set_option exponentiation.threshold 20000
namespace G11
open PySem VS
/-- what the law hands to total -/
def itD (CR : Addr) : Sum Int (Int × Int) → D
  | .inl w => .int w
  | .inr x => rp CR x
def itP : Sum Int (Int × Int) → Int × Int
  | .inl w => (w, 1)
  | .inr x => x
section
variable (CR : Addr) (pt : Pt)
theorem want_it {j : Sum Int (Int × Int)} (h : (itP j).2 ≠ 0) : c_want_number CR [itD CR j] pt = some (rp CR (itP j), pt) := by
  cases j with
  | inl w => exact want_int CR pt
  | inr x =>
    have h : x.2 ≠ 0 := h
    obtain ⟨p, q, g, e1, _⟩ := rat_low CR (a := x.1) h
    show c_want_number CR [rat CR x.1 x.2] pt = some (rat CR x.1 x.2, pt)
    rw [e1]
    exact want_mk CR pt
theorem want_loop (u v : Sl) : ∀ (js : List (Sum Int (Int × Int))), (∀ j ∈ js, (itP j).2 ≠ 0) →
    cLoop [2] (tgName 2) cYes (eCall (c_want_number CR) [0] [] (aCons (eVar 2) aNil)) (js.map (itD CR)) ⟨[u, v, .un], pt⟩ = some ((js.map itP).map (rp CR), ⟨[u, v, .un], pt⟩)
  | [], h => rfl
  | j :: js, h => by
    have w := want_it CR pt (h j (List.mem_cons_self ..))
    have c := l_callG (is := [0]) (dd := []) (pt := pt) (S0 := ⟨[u, v, .sh (itD CR j)], pt⟩) (f := aCons (eVar 2) aNil) rfl rfl rfl w
    have r := want_loop u v js fun i hi => h i (List.mem_cons_of_mem _ hi)
    rw [List.map_cons, List.map_cons, List.map_cons]
    unfold cLoop
    show (match eCall (c_want_number CR) [0] [] (aCons (eVar 2) aNil) ⟨[u, v, .sh (itD CR j)], pt⟩ with
        | some (e, s3) => match cLoop [2] (tgName 2) cYes (eCall (c_want_number CR) [0] [] (aCons (eVar 2) aNil)) (js.map (itD CR)) { s3 with sl := wipeS s3.sl [2] } with
          | some (es, s4) => some (e :: es, s4)
          | none => none
        | none => none) = _
    rw [c]
    show (match cLoop [2] (tgName 2) cYes (eCall (c_want_number CR) [0] [] (aCons (eVar 2) aNil)) (js.map (itD CR)) ⟨[u, v, .un], pt⟩ with
          | some (es, s4) => some (rp CR (itP j) :: es, s4)
          | none => none) = _
    rw [r]
theorem want_comp {i : Sem1 (List D)} {u : Sl} {x : D} {js : List (Sum Int (Int × Int))} (hl : js.length ≤ 5) (hi : i ⟨[u, .sh x, .un], pt⟩ = some (js.map (itD CR), ⟨[u, .sh x, .un], pt⟩)) (h : ∀ j ∈ js, (itP j).2 ≠ 0) :
    eComp [2] i (tgName 2) cYes (eCall (c_want_number CR) [0] [] (aCons (eVar 2) aNil)) ⟨[u, .sh x, .un], pt⟩ = some (.lst ((js.map itP).map (rp CR)), ⟨[u, .sh x, .un], pt⟩) := by
  have r := want_loop CR pt u (.sh x) js h
  have lm : (js.map (itD CR)).length ≤ LIM := by
    rw [List.length_map]
    exact Nat.le_trans hl (by decide)
  unfold eComp
  rw [hi]
  show (if (js.map (itD CR)).length ≤ LIM then
      match cLoop [2] (tgName 2) cYes (eCall (c_want_number CR) [0] [] (aCons (eVar 2) aNil)) (js.map (itD CR)) ⟨[u, .sh x, .un], pt⟩ with
      | some (es, s2) => some (D.lst es, (⟨restS [u, .sh x, .un] s2.sl [2], s2.pot⟩ : S))
      | none => none
    else none) = _
  rw [if_pos lm, r]
  rfl
theorem total_ok (js : List (Sum Int (Int × Int))) (hl : js.length ≤ 5) (h : ∀ j ∈ js, Okp (itP j)) :
    c_Ratio_total CR [.lst (js.map (itD CR))] pt = some (rp CR ((js.map itP).foldl stp (0, 1)), pt) ∧ c_Ratio_total_tup CR [.tup (js.map (itD CR))] pt = some (rp CR ((js.map itP).foldl stp (0, 1)), pt) := by
  have t := total_of_ok CR pt (js.map itP) (by rw [List.length_map]; exact hl) (by
    intro x hx
    obtain ⟨j, hj, rfl⟩ := List.mem_map.mp hx
    exact h j hj)
  have h0 : ∀ j ∈ js, (itP j).2 ≠ 0 := fun j hj => (h j hj).2.2
  constructor
  · have w := want_comp CR pt (u := .un) (x := .lst (js.map (itD CR))) (i := iL (eVar 1)) hl rfl h0
    have li : c_is_list CR [.lst (js.map (itD CR))] pt = some (.bl true, pt) := rfl
    have c1 := l_callG (is := [0]) (dd := []) (pt := pt) (S0 := ⟨[.un, .sh (.lst (js.map (itD CR))), .un], pt⟩) (f := aCons (eVar 1) aNil) rfl rfl rfl li
    have c2 := l_callG (cc := c_total_of CR) (is := [0]) (dd := []) (pt := pt) (S0 := ⟨[.un, .sh (.lst (js.map (itD CR))), .un], pt⟩) (cons1 w (rfl : aNil _ = some ([], _))) rfl rfl t
    have s1 : gIf (eNotT (eT (eCall (c_is_list CR) [0] [] (aCons (eVar 1) aNil)))) (gSeq (fun _ => none) gNil) gNil ⟨[.un, .sh (.lst (js.map (itD CR))), .un], pt⟩ = some (.nx ⟨[.un, .sh (.lst (js.map (itD CR))), .un], pt⟩) := by
      refine if_no (not_yes ?_)
      unfold eT
      rw [c1]
    unfold c_Ratio_total fnC b_Ratio_total
    rw [show VS.atI 3 [.lst (js.map (itD CR))] pt = ⟨[.un, .sh (.lst (js.map (itD CR))), .un], pt⟩ from rfl, seq_nx s1]
    unfold gSeq gRet
    rw [c2]
  · have w := want_comp CR pt (u := .un) (x := .tup (js.map (itD CR))) (i := iT (eVar 1)) hl rfl h0
    have li : c_is_list CR [.tup (js.map (itD CR))] pt = some (.bl true, pt) := rfl
    have c1 := l_callG (is := [0]) (dd := []) (pt := pt) (S0 := ⟨[.un, .sh (.tup (js.map (itD CR))), .un], pt⟩) (f := aCons (eVar 1) aNil) rfl rfl rfl li
    have c2 := l_callG (cc := c_total_of CR) (is := [0]) (dd := []) (pt := pt) (S0 := ⟨[.un, .sh (.tup (js.map (itD CR))), .un], pt⟩) (cons1 w (rfl : aNil _ = some ([], _))) rfl rfl t
    have s1 : gIf (eNotT (eT (eCall (c_is_list CR) [0] [] (aCons (eVar 1) aNil)))) (gSeq (fun _ => none) gNil) gNil ⟨[.un, .sh (.tup (js.map (itD CR))), .un], pt⟩ = some (.nx ⟨[.un, .sh (.tup (js.map (itD CR))), .un], pt⟩) := by
      refine if_no (not_yes ?_)
      unfold eT
      rw [c1]
    unfold c_Ratio_total_tup fnC b_Ratio_total_tup
    rw [show VS.atI 3 [.tup (js.map (itD CR))] pt = ⟨[.un, .sh (.tup (js.map (itD CR))), .un], pt⟩ from rfl, seq_nx s1]
    unfold gSeq gRet
    rw [c2]
end
end G11
end
section
set_option linter.all false
set_option maxRecDepth 100000
set_option maxHeartbeats 1000000
set_option exponentiation.threshold 20000
namespace G11
open PySem VS
def pD (x : Int × Int) : D := .tup [.int x.1, .int x.2]
theorem l_app {f : Sem1 D} {i : Nat} {s s1 : S} {ds0 ds : List D} {d : D} (h0 : s.sl[i]? = some (.ow (.lst ds0))) (hf : f s = some (d, s1)) (h1 : s1.sl[i]? = some (.ow (.lst ds))) (hl : ds.length < LIM) :
    gApp i f s = some (.nx { s1 with sl := s1.sl.set i (.ow (.lst (ds ++ [d]))) }) := by
  unfold gApp
  rw [h0]
  simp only []
  rw [hf]
  simp only []
  rw [h1]
  simp only []
  rw [if_pos hl]
theorem l_asg {f : Sem1 D} {i : Nat} {s s1 : S} {d : D} (hf : f s = some (d, s1)) : gAsg f (tgName i) s = some (.nx { s1 with sl := s1.sl.set i (.sh d) }) := by
  unfold gAsg
  rw [hf]
  rfl
theorem l_par {f : Sem1 (List D)} {i j : Nat} {s s1 : S} {d e : D} (hf : f s = some ([d, e], s1)) : gPar i j f s = some (.nx { s1 with sl := (s1.sl.set i (.sh d)).set j (.sh e) }) := by
  unfold gPar
  rw [hf]
theorem if_go {t : Sem1 Bool} {g g' : S → Option Fl} {s s1 : S} {b : Bool} (h : t s = some (b, s1)) : gIf t g g' s = if b = true then g s1 else g' s1 := by
  unfold gIf
  rw [h]
  cases b <;> rfl
section
variable (CR : Addr)
def totRW (CR : Addr) : S → Option Fl := gSeq (gAsg (eCall (c__law_whole CR) [0] [] (aCons (eVar 0) aNil)) (tgName 6))
    (gSeq (gApp 4 (eVar 6))
    (gSeq (gAsg (e2 gAdd (eVarB 2) (e2 gMul (eVarB 6) (eVarB 3))) (tgName 2))
    gNil))
def totRP (CR : Addr) : S → Option Fl := gSeq (gAsg (eCall (c__law_pick CR) [0, 1] [] (aCons (eVar 0) (aCons (eVar 1) aNil))) (tgName 7))
    (gSeq (gApp 4 (eCall (c_Ratio___init__ CR) [0, 1] [.int 1] (aCons (e2 gIx (eVarB 7) (eC (.int 0))) (aCons (e2 gIx (eVarB 7) (eC (.int 1))) aNil))))
    (gSeq (gPar 2 3 (aCons (e2 gAdd (e2 gMul (eVarB 2) (e2 gIx (eVarB 7) (eC (.int 1)))) (e2 gMul (e2 gIx (eVarB 7) (eC (.int 0))) (eVarB 3))) (aCons (e2 gMul (eVarB 3) (e2 gIx (eVarB 7) (eC (.int 1)))) aNil)))
    gNil))
def totRD (CR : Addr) : Sem1 D := e2 (gSEq false) (eCall (c__law_draw CR) [0, 1] [] (aCons (eVar 0) (aCons (eC (.int 3)) aNil))) (eC (.int 0))
def totRB (CR : Addr) : S → Option Fl := gSeq (gIf (eT (totRD CR)) (totRW CR) (totRP CR)) gNil
/-- the state in the rounds -/
def sL (prs : List (Int × Int)) (c : Int × Int) (js : List (Sum Int (Int × Int))) (o5 o6 o7 : Sl) (pt : Pt) : S :=
  ⟨[.sh .pot, .sh (.lst (prs.map pD)), .sh (.int c.1), .sh (.int c.2), .ow (.lst (js.map (itD CR))), o5, o6, o7], pt⟩
variable {prs : List (Int × Int)} {c : Int × Int} {js : List (Sum Int (Int × Int))} {o5 o6 o7 : Sl} {k : Nat} {x y : Int}
theorem totW_ok (hk : k ≤ 4) (hc : Okc k c) (hl : js.length ≤ 4) (hy : Yk y) : ∃ j p6 x' y', totRW CR (sL CR prs c js o5 o6 o7 (some (x, y))) = some (.nx (sL CR prs (stp c (itP j)) (js ++ [j]) o5 p6 o7 (some (x', y')))) ∧ Okp (itP j) ∧ Yk y' := by
  obtain ⟨w, x', y', h, hw, hy'⟩ := whole_ok CR (x := x) hy
  have bw : B1 w := Nat.lt_trans hw (by decide)
  refine ⟨.inl w, .sh (.int w), x', y', ?_, ⟨bw, (by decide : (1:Int).natAbs < 2 ^ 160), (by decide : (1:Int) ≠ 0)⟩, hy'⟩
  have a1 : gAsg (eCall (c__law_whole CR) [0] [] (aCons (eVar 0) aNil)) (tgName 6) (sL CR prs c js o5 o6 o7 (some (x, y))) = some (.nx (sL CR prs c js o5 (.sh (.int w)) o7 (some (x', y')))) :=
    l_asg (l_callP (is := [0]) (dd := []) (pt := some (x, y)) (S0 := sL CR prs c js o5 o6 o7 (some (x, y))) (f := aCons (eVar 0) aNil) rfl rfl rfl h)
  have lm : (js.map (itD CR)).length < LIM := by
    rw [List.length_map]
    exact Nat.lt_of_le_of_lt hl (by decide)
  have a2 : gApp 4 (eVar 6) (sL CR prs c js o5 (.sh (.int w)) o7 (some (x', y'))) = some (.nx (sL CR prs c (js ++ [.inl w]) o5 (.sh (.int w)) o7 (some (x', y')))) := by
    have := l_app (f := eVar 6) (i := 4) (s := sL CR prs c js o5 (.sh (.int w)) o7 (some (x', y'))) rfl rfl rfl lm
    rw [this]
    simp [sL, List.map_append, itD]
  have m : cMul w c.2 = true := b9_mul (b1_9 bw) (bk_9 hc.2.1 (by omega))
  have a3 : gAsg (e2 gAdd (eVarB 2) (e2 gMul (eVarB 6) (eVarB 3))) (tgName 2) (sL CR prs c (js ++ [.inl w]) o5 (.sh (.int w)) o7 (some (x', y'))) = some (.nx (sL CR prs (stp c (w, 1)) (js ++ [.inl w]) o5 (.sh (.int w)) o7 (some (x', y')))) := by
    have := l_asg (i := 2) (tadd (f := eVarB 2) (S0 := sL CR prs c (js ++ [.inl w]) o5 (.sh (.int w)) o7 (some (x', y'))) rfl (tmul (f := eVarB 6) (g := eVarB 3) rfl rfl m))
    rw [this]
    simp [sL, stp]
  unfold totRW
  rw [seq_nx a1, seq_nx a2, seq_nx a3]
  rfl
theorem totP_ok (hk : k ≤ 4) (hc : Okc k c) (hl : js.length ≤ 4) (hp : ∀ x ∈ prs, Okp x) (hn : 0 < prs.length) (hn2 : prs.length < 1000) (hy : Yk y) : ∃ j p7 x' y', totRP CR (sL CR prs c js o5 o6 o7 (some (x, y))) = some (.nx (sL CR prs (stp c (itP j)) (js ++ [j]) o5 o6 p7 (some (x', y')))) ∧ Okp (itP j) ∧ Yk y' := by
  obtain ⟨d, x', y', h, hd, hy'⟩ := pick_ok CR (ds := prs.map pD) (x := x) (by rw [List.length_map]; exact hn) (by rw [List.length_map]; exact hn2) hy
  obtain ⟨q, hq, rfl⟩ := List.mem_map.mp hd
  have oq := hp q hq
  refine ⟨.inr q, .sh (pD q), x', y', ?_, oq, hy'⟩
  have a1 : gAsg (eCall (c__law_pick CR) [0, 1] [] (aCons (eVar 0) (aCons (eVar 1) aNil))) (tgName 7) (sL CR prs c js o5 o6 o7 (some (x, y))) = some (.nx (sL CR prs c js o5 o6 (.sh (pD q)) (some (x', y')))) :=
    l_asg (l_callP (is := [0, 1]) (dd := []) (pt := some (x, y)) (S0 := sL CR prs c js o5 o6 o7 (some (x, y))) (f := aCons (eVar 0) (aCons (eVar 1) aNil)) rfl rfl rfl h)
  have lm : (js.map (itD CR)).length < LIM := by
    rw [List.length_map]
    exact Nat.lt_of_le_of_lt hl (by decide)
  have i := init_ok CR q.1 q.2 (some (x', y')) oq.2.2 (Nat.lt_trans oq.2.1 (Nat.pow_lt_pow_right (by decide) (by decide)))
  have ca : eCall (c_Ratio___init__ CR) [0, 1] [.int 1] (aCons (e2 gIx (eVarB 7) (eC (.int 0))) (aCons (e2 gIx (eVarB 7) (eC (.int 1))) aNil)) (sL CR prs c js o5 o6 (.sh (pD q)) (some (x', y'))) = some (rp CR q, sL CR prs c js o5 o6 (.sh (pD q)) (some (x', y'))) :=
    l_callG (is := [0, 1]) (dd := [.int 1]) (pt := some (x', y')) (S0 := sL CR prs c js o5 o6 (.sh (pD q)) (some (x', y'))) rfl rfl rfl i
  have a2 : gApp 4 (eCall (c_Ratio___init__ CR) [0, 1] [.int 1] (aCons (e2 gIx (eVarB 7) (eC (.int 0))) (aCons (e2 gIx (eVarB 7) (eC (.int 1))) aNil))) (sL CR prs c js o5 o6 (.sh (pD q)) (some (x', y'))) = some (.nx (sL CR prs c (js ++ [.inr q]) o5 o6 (.sh (pD q)) (some (x', y')))) := by
    rw [l_app (i := 4) rfl ca rfl lm]
    simp [sL, List.map_append, itD]
  have m1 : cMul c.1 q.2 = true := b9_mul (bk_9 hc.1 (by omega)) (b1_9 oq.2.1)
  have m2 : cMul q.1 c.2 = true := b9_mul (b1_9 oq.1) (bk_9 hc.2.1 (by omega))
  have m3 : cMul c.2 q.2 = true := b9_mul (bk_9 hc.2.1 (by omega)) (b1_9 oq.2.1)
  have t7 : ∀ s, s = sL CR prs c (js ++ [.inr q]) o5 o6 (.sh (pD q)) (some (x', y')) → eVarB 2 s = some (.int c.1, s) ∧ eVarB 3 s = some (.int c.2, s) ∧ e2 gIx (eVarB 7) (eC (.int 0)) s = some (.int q.1, s) ∧ e2 gIx (eVarB 7) (eC (.int 1)) s = some (.int q.2, s) := by
    intro s hs
    subst hs
    exact ⟨rfl, rfl, rfl, rfl⟩
  obtain ⟨r2, r3, r70, r71⟩ := t7 _ rfl
  have a3 : gPar 2 3 (aCons (e2 gAdd (e2 gMul (eVarB 2) (e2 gIx (eVarB 7) (eC (.int 1)))) (e2 gMul (e2 gIx (eVarB 7) (eC (.int 0))) (eVarB 3))) (aCons (e2 gMul (eVarB 3) (e2 gIx (eVarB 7) (eC (.int 1)))) aNil)) (sL CR prs c (js ++ [.inr q]) o5 o6 (.sh (pD q)) (some (x', y'))) = some (.nx (sL CR prs (stp c q) (js ++ [.inr q]) o5 o6 (.sh (pD q)) (some (x', y')))) :=
    l_par (cons1 (tadd (tmul r2 r71 m1) (tmul r70 r3 m2)) (cons1 (tmul r3 r71 m3) rfl))
  unfold totRP
  rw [seq_nx a1, seq_nx a2, seq_nx a3]
  rfl
theorem totB_ok (hk : k ≤ 4) (hc : Okc k c) (hl : js.length ≤ 4) (hp : ∀ x ∈ prs, Okp x) (hn : 0 < prs.length) (hn2 : prs.length < 1000) (hy : Yk y) : ∃ j p6 p7 x' y', totRB CR (sL CR prs c js o5 o6 o7 (some (x, y))) = some (.nx (sL CR prs (stp c (itP j)) (js ++ [j]) o5 p6 p7 (some (x', y')))) ∧ Okp (itP j) ∧ Yk y' := by
  obtain ⟨d, x1, y1, h, h0, h1, hy1⟩ := draw_ok CR (n := 3) (x := x) (by decide) (by decide) hy
  have cd : eCall (c__law_draw CR) [0, 1] [] (aCons (eVar 0) (aCons (eC (.int 3)) aNil)) (sL CR prs c js o5 o6 o7 (some (x, y))) = some (.int d, sL CR prs c js o5 o6 o7 (some (x1, y1))) :=
    l_callP (is := [0, 1]) (dd := []) (pt := some (x, y)) (S0 := sL CR prs c js o5 o6 o7 (some (x, y))) (f := aCons (eVar 0) (aCons (eC (.int 3)) aNil)) rfl rfl rfl h
  have ct : eT (totRD CR) (sL CR prs c js o5 o6 o7 (some (x, y))) = some (decide (d = 0), sL CR prs c js o5 o6 o7 (some (x1, y1))) := by
    unfold totRD eT e2
    rw [cd]
    rfl
  have key : ∃ j p6 p7 x' y', gIf (eT (totRD CR)) (totRW CR) (totRP CR) (sL CR prs c js o5 o6 o7 (some (x, y))) = some (.nx (sL CR prs (stp c (itP j)) (js ++ [j]) o5 p6 p7 (some (x', y')))) ∧ Okp (itP j) ∧ Yk y' := by
    rw [if_go ct]
    by_cases hd : d = 0
    · obtain ⟨j, p6, x', y', e, e1, e2'⟩ := totW_ok CR (prs := prs) (o5 := o5) (o6 := o6) (o7 := o7) (x := x1) hk hc hl hy1
      exact ⟨j, p6, o7, x', y', by rw [if_pos (decide_eq_true hd)]; exact e, e1, e2'⟩
    · obtain ⟨j, p7, x', y', e, e1, e2'⟩ := totP_ok CR (o5 := o5) (o6 := o6) (o7 := o7) (x := x1) hk hc hl hp hn hn2 hy1
      exact ⟨j, o6, p7, x', y', by rw [if_neg (by simpa using hd)]; exact e, e1, e2'⟩
  obtain ⟨j, p6, p7, x', y', e, e1, e2'⟩ := key
  refine ⟨j, p6, p7, x', y', ?_, e1, e2'⟩
  unfold totRB
  rw [seq_nx e]
  rfl
end
end G11
end
section
set_option linter.all false
set_option maxRecDepth 100000
set_option maxHeartbeats 1000000
set_option exponentiation.threshold 20000
namespace G11
open PySem VS
theorem l_callS {cc : Fn} {is : List Nat} {dd ds xs : List D} {f : Sem1 (List D)} {s S0 : S} {res : D} {pt : Pt} (hf : f s = some (ds, S0)) (hp : S0.pot = pt) (hx : pick is (ds ++ dd) = xs) (hc : cc xs pt = some (res, pt)) : eCall cc is dd f s = some (res, S0) := by
  subst hp
  subst hx
  unfold eCall
  rw [hf]
  show (match cc (pick is (ds ++ dd)) S0.pot with
    | some (d, pt) => some (d, { S0 with pot := pt })
    | none => none) = _
  rw [hc]
theorem consS {f : Sem1 D} {g : Sem1 (List D)} {s S0 S1 : S} {x : D} {xs : List D} (hf : f s = some (x, S0)) (hg : g S0 = some (xs, S1)) : aCons f g s = some (x :: xs, S1) := by
  simp [aCons, hf, hg]
section
variable (CR : Addr) {prs : List (Int × Int)}
theorem totL (hp : ∀ x ∈ prs, Okp x) (hn : 0 < prs.length) (hn2 : prs.length < 1000) : ∀ (ds : List D) (k : Nat) (c : Int × Int) (js : List (Sum Int (Int × Int))) (o5 o6 o7 : Sl) (x y : Int), k + ds.length ≤ 4 → js.length = k → Okc k c → (∀ j ∈ js, Okp (itP j)) → c = (js.map itP).foldl stp (0, 1) → Yk y →
    ∃ c' js' p5 p6 p7 x' y' k', gLoop (tgName 5) (totRB CR) ds (sL CR prs c js o5 o6 o7 (some (x, y))) = some (.nx (sL CR prs c' js' p5 p6 p7 (some (x', y')))) ∧ c' = (js'.map itP).foldl stp (0, 1) ∧ Okc k' c' ∧ k' ≤ 4 ∧ js'.length ≤ 4 ∧ (∀ j ∈ js', Okp (itP j)) ∧ Yk y'
  | [], k, c, js, o5, o6, o7, x, y, hk, hl, hc, hj, e, hy => ⟨c, js, o5, o6, o7, x, y, k, rfl, e, hc, by simpa using hk, by simp at hk; omega, hj, hy⟩
  | d :: ds, k, c, js, o5, o6, o7, x, y, hk, hl, hc, hj, e, hy => by
    simp only [List.length_cons] at hk
    obtain ⟨j, p6, p7, x1, y1, b, oj, hy1⟩ := totB_ok CR (prs := prs) (js := js) (o5 := .sh d) (o6 := o6) (o7 := o7) (x := x) (by omega) hc (by omega) hp hn hn2 hy
    obtain ⟨c', js', q5, q6, q7, x', y', k', r, r2⟩ := totL hp hn hn2 ds (k + 1) (stp c (itP j)) (js ++ [j]) (.sh d) p6 p7 x1 y1 (by omega) (by simp [hl]) (okc_stp hc oj) (by
      intro i hi
      rcases List.mem_append.mp hi with h | h
      · exact hj i h
      · simp at h
        subst h
        exact oj) (by
      rw [List.map_append, List.foldl_append, ← e]
      rfl) hy1
    refine ⟨c', js', q5, q6, q7, x', y', k', ?_, r2⟩
    have u : gLoop (tgName 5) (totRB CR) (d :: ds) (sL CR prs c js o5 o6 o7 (some (x, y))) = match totRB CR (sL CR prs c js (.sh d) o6 o7 (some (x, y))) with
      | some (.nx s2) => gLoop (tgName 5) (totRB CR) ds s2
      | r => r := rfl
    rw [u, b]
    exact r
def totE (CR : Addr) : Sem1 D := eAnd (eCall (c__law_is CR) [0, 1, 2] [] (aCons (eCall (c_Ratio_total CR) [0] [] (aCons (eVar 4) aNil)) (aCons (eVar 2) (aCons (eVar 3) aNil)))) (eCall (c__law_is CR) [0, 1, 2] [] (aCons (eCall (c_Ratio_total_tup CR) [0] [] (aCons (eL gTuple (aCons (eVarB 4) aNil)) aNil)) (aCons (eVar 2) (aCons (eVar 3) aNil))))
theorem totE_ok {c : Int × Int} {js : List (Sum Int (Int × Int))} {o5 o6 o7 : Sl} {k : Nat} (pt : Pt) (hk : k ≤ 4) (hc : Okc k c) (hl : js.length ≤ 4) (hj : ∀ j ∈ js, Okp (itP j)) (e : c = (js.map itP).foldl stp (0, 1)) : ∃ s', totE CR (sL CR prs c js o5 o6 o7 pt) = some (.bl true, s') ∧ s'.pot = pt := by
  obtain ⟨t1, t2⟩ := total_ok CR pt js (by omega) hj
  rw [← e] at t1 t2
  have q := is_rat CR pt hc.2.2 (Int.mul_comm c.1 c.2 ▸ rfl : c.1 * c.2 = c.1 * c.2) (bk_9 hc.1 (by omega)) (bk_9 hc.2.1 (by omega)) (bk_9 hc.1 (by omega)) (bk_9 hc.2.1 (by omega))
  let s' : S := ⟨[.sh .pot, .sh (.lst (prs.map pD)), .sh (.int c.1), .sh (.int c.2), .sh (.lst (js.map (itD CR))), o5, o6, o7], pt⟩
  have v4 : aCons (eVar 4) aNil (sL CR prs c js o5 o6 o7 pt) = some ([.lst (js.map (itD CR))], s') := rfl
  have c1 : eCall (c__law_is CR) [0, 1, 2] [] (aCons (eCall (c_Ratio_total CR) [0] [] (aCons (eVar 4) aNil)) (aCons (eVar 2) (aCons (eVar 3) aNil))) (sL CR prs c js o5 o6 o7 pt) = some (.bl true, s') := by
    refine l_callS (pt := pt) (S0 := s') (consS (l_callS (pt := pt) v4 rfl rfl t1) (rfl : _ = some ([D.int c.1, D.int c.2], s'))) rfl rfl q
  have c2 : eCall (c__law_is CR) [0, 1, 2] [] (aCons (eCall (c_Ratio_total_tup CR) [0] [] (aCons (eL gTuple (aCons (eVarB 4) aNil)) aNil)) (aCons (eVar 2) (aCons (eVar 3) aNil))) s' = some (.bl true, s') := by
    refine l_callS (pt := pt) (S0 := s') (consS (l_callS (pt := pt) (S0 := s') (ds := [.tup (js.map (itD CR))]) rfl rfl rfl t2) (rfl : _ = some ([D.int c.1, D.int c.2], s'))) rfl rfl q
  refine ⟨s', ?_, rfl⟩
  unfold totE eAnd
  rw [c1]
  exact c2
theorem total_right (hp : ∀ x ∈ prs, Okp x) (hn : 0 < prs.length) (hn2 : prs.length < 1000) {x y : Int} (hy : Yk y) : ∃ pt, c__law_total_right CR [.pot, .lst (prs.map pD)] (some (x, y)) = some (.bl true, pt) := by
  obtain ⟨e, x1, y1, h, h0, h1, hy1⟩ := draw_ok CR (n := 5) (x := x) (by decide) (by decide) hy
  have lr : ∀ (n : Nat) (i : Int), (rngD i n).length = n := fun n i => by
    unfold rngD
    rw [List.length_map, List.length_range]
  obtain ⟨c', js', p5, p6, p7, x', y', k', r, r1, r2, r3, r4, r5, r6⟩ := totL CR hp hn hn2 (rngD 0 e.toNat) 0 (0, 1) [] .un .un .un x1 y1 (by rw [lr]; omega) rfl okc0 (by simp) rfl hy1
  obtain ⟨s', f1, f2⟩ := totE_ok CR (prs := prs) (o5 := p5) (o6 := p6) (o7 := p7) (some (x', y')) r3 r2 r4 r5 r1
  refine ⟨some (x', y'), ?_⟩
  have a1 : gPar3o 2 3 4 (eC (.int 0)) (eC (.int 1)) (eLst aNil) (atD 8 [.pot, .lst (prs.map pD)] (some (x, y))) = some (.nx (sL CR prs (0, 1) [] .un .un .un (some (x, y)))) := rfl
  have cd : aCons (eCall (c__law_draw CR) [0, 1] [] (aCons (eVar 0) (aCons (eC (.int 5)) aNil))) aNil (sL CR prs (0, 1) [] .un .un .un (some (x, y))) = some ([.int e], sL CR prs (0, 1) [] .un .un .un (some (x1, y1))) :=
    consS (l_callP (is := [0, 1]) (dd := []) (pt := some (x, y)) (S0 := sL CR prs (0, 1) [] .un .un .un (some (x, y))) (f := aCons (eVar 0) (aCons (eC (.int 5)) aNil)) rfl rfl rfl h) rfl
  have ir : iR1 (aCons (eCall (c__law_draw CR) [0, 1] [] (aCons (eVar 0) (aCons (eC (.int 5)) aNil))) aNil) (sL CR prs (0, 1) [] .un .un .un (some (x, y))) = some (rngD 0 e.toNat, sL CR prs (0, 1) [] .un .un .un (some (x1, y1))) := by
    unfold iR1
    rw [cd]
    exact if_pos (decide_eq_true (by omega))
  have a2 : gFor (iR1 (aCons (eCall (c__law_draw CR) [0, 1] [] (aCons (eVar 0) (aCons (eC (.int 5)) aNil))) aNil)) (tgName 5) (totRB CR) (sL CR prs (0, 1) [] .un .un .un (some (x, y))) = some (.nx (sL CR prs c' js' p5 p6 p7 (some (x', y')))) := by
    unfold gFor
    rw [ir]
    exact r
  have a3 : gSeq (gRet (totE CR)) gNil (sL CR prs c' js' p5 p6 p7 (some (x', y'))) = some (.rt (.bl true) (some (x', y'))) := by
    unfold gSeq gRet
    rw [f1]
    simp only []
    rw [f2]
  have bd : b__law_total_right CR = gSeq (gPar3o 2 3 4 (eC (.int 0)) (eC (.int 1)) (eLst aNil)) (gSeq (gFor (iR1 (aCons (eCall (c__law_draw CR) [0, 1] [] (aCons (eVar 0) (aCons (eC (.int 5)) aNil))) aNil)) (tgName 5) (totRB CR)) (gSeq (gRet (totE CR)) gNil)) := rfl
  unfold c__law_total_right fnB
  rw [bd, seq_nx a1, seq_nx a2, a3]
end
end G11
end
section
set_option linter.all false
set_option maxRecDepth 100000
set_option maxHeartbeats 1000000
set_option exponentiation.threshold 20000
namespace G11
open PySem VS
theorem two_p (CR : Addr) {p q : Int × Int} (pt : Pt) (hp : Okp p) (hq : Okp q) : c__law_two_right CR [pD p, pD q] pt = some (.bl true, pt) := by
  obtain ⟨a, b, c, d, g, h, T⟩ := two_mk CR hp.1 hp.2.1 hq.1 hq.2.1 hp.2.2 hq.2.2
  exact two_right CR pt T
theorem whole_p (CR : Addr) {p : Int × Int} {w : Int} (pt : Pt) (hp : Okp p) (hw : B1 w) : c__law_whole_right CR [pD p, .int w] pt = some (.bl true, pt) := whole_ok2 CR pt hp.1 hp.2.1 hw hp.2.2
theorem okp_bd {a b : Int} (ha : Bd a) (hb : Bd b) (b0 : b ≠ 0) : Okp (a, b) := ⟨bd_b1 ha, bd_b1 hb, b0⟩
theorem bd_6 {a : Int} (h : Bd a) : B1 (a * 6) := by
  unfold B1
  have := h.1
  have := h.2
  have e : (10 : Int) ^ 45 = 1000000000000000000000000000000000000000000000 := by decide
  have e2 : 2 ^ 160 = 1461501637330902918203684832716283019655932542976 := by decide
  rw [e2]
  omega
theorem bd_neg {a : Int} (h : Bd a) : B1 (0 - a) := by
  have := bd_b1 h
  unfold B1 at *
  rw [Int.zero_sub, Int.natAbs_neg]
  exact this
/-- the law's list -/
def prs5 (p q : Int × Int) : List (Int × Int) := [p, q, (0, 3), (p.1 * 6, p.2 * 6), (0 - q.1, 0 - q.2)]
theorem prs5_ok {p q : Int × Int} (p1 : Bd p.1) (p2 : Bd p.2) (p0 : p.2 ≠ 0) (q1 : Bd q.1) (q2 : Bd q.2) (q0 : q.2 ≠ 0) : ∀ x ∈ prs5 p q, Okp x := by
  intro x hx
  unfold prs5 at hx
  simp only [List.mem_cons, List.not_mem_nil, or_false] at hx
  rcases hx with h | h | h | h | h <;> subst h
  · exact ⟨bd_b1 p1, bd_b1 p2, p0⟩
  · exact ⟨bd_b1 q1, bd_b1 q2, q0⟩
  · exact ⟨(by decide : (0:Int).natAbs < 2 ^ 160), (by decide : (3:Int).natAbs < 2 ^ 160), by decide⟩
  · exact ⟨bd_6 p1, bd_6 p2, by show p.2 * 6 ≠ 0; omega⟩
  · exact ⟨bd_neg q1, bd_neg q2, by show 0 - q.2 ≠ 0; omega⟩
section
variable (CR : Addr)
def sB (scr : D) (l2 l3 l4 : Sl) (pt : Pt) : S := ⟨[.sh scr, .sh .pot, l2, l3, l4, .un], pt⟩
def twoE (CR : Addr) : Sem1 D := eCall (c__law_two_right CR) [0, 1] [] (aCons (eVar 4) (aCons (eVar 5) aNil))
variable {scr : D} {l3 : Sl} (pt : Pt) {p : Int × Int}
theorem two_loop (L : D) (hp : Okp p) : ∀ ps : List (Int × Int), (∀ x ∈ ps, Okp x) →
    cLoop [5] (tgName 5) cYes (twoE CR) (ps.map pD) (sB scr (.sh L) l3 (.sh (pD p)) pt) = some (ps.map fun _ => .bl true, sB scr (.sh L) l3 (.sh (pD p)) pt)
  | [], h => rfl
  | q :: ps, h => by
    have w := two_p CR pt hp (h q (List.mem_cons_self ..))
    have c : twoE CR ⟨[.sh scr, .sh .pot, .sh L, l3, .sh (pD p), .sh (pD q)], pt⟩ = some (.bl true, ⟨[.sh scr, .sh .pot, .sh L, l3, .sh (pD p), .sh (pD q)], pt⟩) :=
      l_callG (is := [0, 1]) (dd := []) (pt := pt) (S0 := ⟨[.sh scr, .sh .pot, .sh L, l3, .sh (pD p), .sh (pD q)], pt⟩) (f := aCons (eVar 4) (aCons (eVar 5) aNil)) rfl rfl rfl w
    have r := two_loop L hp ps fun i hi => h i (List.mem_cons_of_mem _ hi)
    rw [List.map_cons, List.map_cons]
    unfold cLoop
    show (match twoE CR ⟨[.sh scr, .sh .pot, .sh L, l3, .sh (pD p), .sh (pD q)], pt⟩ with
        | some (e, s3) => match cLoop [5] (tgName 5) cYes (twoE CR) (ps.map pD) { s3 with sl := wipeS s3.sl [5] } with
          | some (es, s4) => some (e :: es, s4)
          | none => none
        | none => none) = _
    rw [c]
    show (match cLoop [5] (tgName 5) cYes (twoE CR) (ps.map pD) (sB scr (.sh L) l3 (.sh (pD p)) pt) with
          | some (es, s4) => some (D.bl true :: es, s4)
          | none => none) = _
    rw [r]
theorem two_comp {l2 : Sl} {ps : List (Int × Int)} (h2 : l2 = .ow (.lst (ps.map pD)) ∨ l2 = .sh (.lst (ps.map pD))) (hl : ps.length ≤ 9) (hp : Okp p) (h : ∀ x ∈ ps, Okp x) :
    eComp [5] (iL (eVar 2)) (tgName 5) cYes (twoE CR) (sB scr l2 l3 (.sh (pD p)) pt) = some (.lst (ps.map fun _ => .bl true), sB scr (.sh (.lst (ps.map pD))) l3 (.sh (pD p)) pt) := by
  have r := two_loop CR (scr := scr) (l3 := l3) pt (.lst (ps.map pD)) hp ps h
  have i : iL (eVar 2) (sB scr l2 l3 (.sh (pD p)) pt) = some (ps.map pD, sB scr (.sh (.lst (ps.map pD))) l3 (.sh (pD p)) pt) := by
    rcases h2 with h2 | h2 <;> subst h2 <;> rfl
  have lm : (ps.map pD).length ≤ LIM := by
    rw [List.length_map]
    exact Nat.le_trans hl (by decide)
  unfold eComp
  rw [i]
  show (if (ps.map pD).length ≤ LIM then
      match cLoop [5] (tgName 5) cYes (twoE CR) (ps.map pD) (sB scr (.sh (.lst (ps.map pD))) l3 (.sh (pD p)) pt) with
      | some (es, s2) => some (D.lst es, (⟨restS (sB scr (.sh (.lst (ps.map pD))) l3 (.sh (pD p)) pt).sl s2.sl [5], s2.pot⟩ : S))
      | none => none
    else none) = _
  rw [if_pos lm, r]
  rfl
def lawB (CR : Addr) : S → Option Fl := gSeq (gIf (eOrT (eNotT (eT (eL gAll (aCons (eComp [5] (iL (eVar 2)) (tgName 5) cYes (twoE CR)) aNil)))) (eNotT (eT (eCall (c__law_whole_right CR) [0, 1] [] (aCons (eVar 4) (aCons (eVar 3) aNil)))))) (gSeq (gRet (eC (.bl false))) gNil) gNil) gNil
theorem all5 (ps : List (Int × Int)) : gAll [.lst (ps.map fun _ => .bl true)] = some (.bl true) := by
  have : boolsOf (ps.map fun _ => D.bl true) = some (ps.map fun _ => true) := by
    induction ps with
    | nil => rfl
    | cons a ps ih =>
      rw [List.map_cons, List.map_cons]
      unfold boolsOf
      rw [ih]
      rfl
  show Option.map (fun ns => D.bl (ns.all id)) (boolsOf (ps.map fun _ => D.bl true)) = some (.bl true)
  rw [this]
  simp
theorem lawB_ok {l2 : Sl} {ps : List (Int × Int)} {w : Int} (h2 : l2 = .ow (.lst (ps.map pD)) ∨ l2 = .sh (.lst (ps.map pD))) (hl : ps.length ≤ 9) (hp : Okp p) (hw : B1 w) (h : ∀ x ∈ ps, Okp x) :
    lawB CR (sB scr l2 (.sh (.int w)) (.sh (pD p)) pt) = some (.nx (sB scr (.sh (.lst (ps.map pD))) (.sh (.int w)) (.sh (pD p)) pt)) := by
  have c1 := two_comp CR (scr := scr) (l3 := .sh (.int w)) pt h2 hl hp h
  have t1 : eT (eL gAll (aCons (eComp [5] (iL (eVar 2)) (tgName 5) cYes (twoE CR)) aNil)) (sB scr l2 (.sh (.int w)) (.sh (pD p)) pt) = some (true, sB scr (.sh (.lst (ps.map pD))) (.sh (.int w)) (.sh (pD p)) pt) := by
    unfold eT eL
    rw [consS c1 (rfl : aNil _ = some ([], _))]
    simp only []
    rw [all5]
  have c2 : eCall (c__law_whole_right CR) [0, 1] [] (aCons (eVar 4) (aCons (eVar 3) aNil)) (sB scr (.sh (.lst (ps.map pD))) (.sh (.int w)) (.sh (pD p)) pt) = some (.bl true, sB scr (.sh (.lst (ps.map pD))) (.sh (.int w)) (.sh (pD p)) pt) :=
    l_callG (pt := pt) rfl rfl rfl (whole_p CR pt hp hw)
  have t2 : eT (eCall (c__law_whole_right CR) [0, 1] [] (aCons (eVar 4) (aCons (eVar 3) aNil))) (sB scr (.sh (.lst (ps.map pD))) (.sh (.int w)) (.sh (pD p)) pt) = some (true, sB scr (.sh (.lst (ps.map pD))) (.sh (.int w)) (.sh (pD p)) pt) := by
    unfold eT
    rw [c2]
  unfold lawB
  rw [seq_nx (if_no (or_no (not_yes t1) (not_yes t2)))]
  rfl
end
end G11
end
section
set_option linter.all false
set_option maxRecDepth 100000
set_option maxHeartbeats 1000000
set_option exponentiation.threshold 20000
namespace G11
open PySem VS
section
variable (CR : Addr) {scr : D} {p q : Int × Int} {w : Int} (pt : Pt)
/-- the list, before it is whole -/
def L3 (p q : Int × Int) : List D := [pD p, pD q, pD (0, 3)]
def L4 (p q : Int × Int) : List D := [pD p, pD q, pD (0, 3), pD (p.1 * 6, p.2 * 6)]
theorem c6 {a : Int} (h : Bd a) : cMul a 6 = true := b9_mul (b1_9 (bd_b1 h)) (b1_9 (by decide : (6:Int).natAbs < 2 ^ 160))
theorem law2 (p1 : Bd p.1) (p2 : Bd p.2) : gApp 2 (eTup (aCons (e2 gMul (e2 gIx (e2 gIx (eVarB 2) (eC (.int 0))) (eC (.int 0))) (eC (.int 6))) (aCons (e2 gMul (e2 gIx (e2 gIx (eVarB 2) (eC (.int 0))) (eC (.int 1))) (eC (.int 6))) aNil))) (sB scr (.ow (.lst (L3 p q))) .un .un pt) = some (.nx (sB scr (.ow (.lst (L4 p q))) .un .un pt)) := by
  have r0 : e2 gIx (e2 gIx (eVarB 2) (eC (.int 0))) (eC (.int 0)) (sB scr (.ow (.lst (L3 p q))) .un .un pt) = some (.int p.1, sB scr (.ow (.lst (L3 p q))) .un .un pt) := rfl
  have r1 : e2 gIx (e2 gIx (eVarB 2) (eC (.int 0))) (eC (.int 1)) (sB scr (.ow (.lst (L3 p q))) .un .un pt) = some (.int p.2, sB scr (.ow (.lst (L3 p q))) .un .un pt) := rfl
  have t : eTup (aCons (e2 gMul (e2 gIx (e2 gIx (eVarB 2) (eC (.int 0))) (eC (.int 0))) (eC (.int 6))) (aCons (e2 gMul (e2 gIx (e2 gIx (eVarB 2) (eC (.int 0))) (eC (.int 1))) (eC (.int 6))) aNil)) (sB scr (.ow (.lst (L3 p q))) .un .un pt) = some (pD (p.1 * 6, p.2 * 6), sB scr (.ow (.lst (L3 p q))) .un .un pt) := by
    unfold eTup
    rw [cons1 (tmul r0 tC (c6 p1)) (cons1 (tmul r1 tC (c6 p2)) (rfl : aNil _ = some ([], _)))]
    rfl
  rw [l_app (i := 2) (ds0 := L3 p q) (ds := L3 p q) rfl t rfl (show 3 < LIM by decide)]
  rfl
theorem law3 : gApp 2 (eTup (aCons (e2 gSub (eC (.int 0)) (e2 gIx (e2 gIx (eVarB 2) (eC (.int 1))) (eC (.int 0)))) (aCons (e2 gSub (eC (.int 0)) (e2 gIx (e2 gIx (eVarB 2) (eC (.int 1))) (eC (.int 1)))) aNil))) (sB scr (.ow (.lst (L4 p q))) .un .un pt) = some (.nx (sB scr (.ow (.lst ((prs5 p q).map pD))) .un .un pt)) := by
  have r0 : e2 gIx (e2 gIx (eVarB 2) (eC (.int 1))) (eC (.int 0)) (sB scr (.ow (.lst (L4 p q))) .un .un pt) = some (.int q.1, sB scr (.ow (.lst (L4 p q))) .un .un pt) := rfl
  have r1 : e2 gIx (e2 gIx (eVarB 2) (eC (.int 1))) (eC (.int 1)) (sB scr (.ow (.lst (L4 p q))) .un .un pt) = some (.int q.2, sB scr (.ow (.lst (L4 p q))) .un .un pt) := rfl
  have t : eTup (aCons (e2 gSub (eC (.int 0)) (e2 gIx (e2 gIx (eVarB 2) (eC (.int 1))) (eC (.int 0)))) (aCons (e2 gSub (eC (.int 0)) (e2 gIx (e2 gIx (eVarB 2) (eC (.int 1))) (eC (.int 1)))) aNil)) (sB scr (.ow (.lst (L4 p q))) .un .un pt) = some (pD (0 - q.1, 0 - q.2), sB scr (.ow (.lst (L4 p q))) .un .un pt) := by
    unfold eTup
    rw [cons1 (tsub tC r0) (cons1 (tsub tC r1) (rfl : aNil _ = some ([], _)))]
    rfl
  rw [l_app (i := 2) (ds0 := L4 p q) (ds := L4 p q) rfl t rfl (show 4 < LIM by decide)]
  rfl
def lawF (CR : Addr) : S → Option Fl := gFor (iL (eCut (eVarB 2) none (some (eC (.int 2))))) (tgName 4) (lawB CR)
theorem law5 (hp : Okp p) (hq : Okp q) (hw : B1 w) (h : ∀ x ∈ prs5 p q, Okp x) : lawF CR (sB scr (.ow (.lst ((prs5 p q).map pD))) (.sh (.int w)) .un pt) = some (.nx (sB scr (.sh (.lst ((prs5 p q).map pD))) (.sh (.int w)) (.sh (pD q)) pt)) := by
  have b1 := lawB_ok CR (scr := scr) (ps := prs5 p q) (w := w) pt (.inl rfl) (show 5 ≤ 9 by decide) hp hw h
  have b2 := lawB_ok CR (scr := scr) (ps := prs5 p q) (w := w) pt (.inr rfl) (show 5 ≤ 9 by decide) hq hw h
  have i : iL (eCut (eVarB 2) none (some (eC (.int 2)))) (sB scr (.ow (.lst ((prs5 p q).map pD))) (.sh (.int w)) .un pt) = some ([pD p, pD q], sB scr (.ow (.lst ((prs5 p q).map pD))) (.sh (.int w)) .un pt) := rfl
  unfold lawF gFor
  rw [i]
  show (match lawB CR (sB scr (.ow (.lst ((prs5 p q).map pD))) (.sh (.int w)) (.sh (pD p)) pt) with
      | some (.nx s2) => gLoop (tgName 4) (lawB CR) [pD q] s2
      | r => r) = _
  rw [b1]
  show (match lawB CR (sB scr (.sh (.lst ((prs5 p q).map pD))) (.sh (.int w)) (.sh (pD q)) pt) with
      | some (.nx s2) => gLoop (tgName 4) (lawB CR) [] s2
      | r => r) = _
  rw [b2]
  rfl
def lawE (CR : Addr) : Sem1 D := eAnd (eCall (c__law_whole_right CR) [0, 1] [] (aCons (e2 gIx (eVarB 2) (eC (.int 2))) (aCons (eVar 3) aNil))) (eAnd (eCall (c__law_whole_right CR) [0, 1] [] (aCons (e2 gIx (eVarB 2) (eC (.int 0))) (aCons (eC (.int 0)) aNil))) (eCall (c__law_total_right CR) [0, 1] [] (aCons (eVar 1) (aCons (eVar 2) aNil))))
theorem law6 (hp : Okp p) (hw : B1 w) (h : ∀ x ∈ prs5 p q, Okp x) {x y : Int} (hy : Yk y) {l4 : Sl} : ∃ pt', lawE CR (sB scr (.sh (.lst ((prs5 p q).map pD))) (.sh (.int w)) l4 (some (x, y))) = some (.bl true, sB scr (.sh (.lst ((prs5 p q).map pD))) (.sh (.int w)) l4 pt') := by
  obtain ⟨pt', t⟩ := total_right CR h (show 0 < 5 by decide) (show 5 < 1000 by decide) (x := x) hy
  have h3 : Okp (0, 3) := h _ (by simp [prs5])
  have z : B1 0 := (by decide : (0:Int).natAbs < 2 ^ 160)
  refine ⟨pt', ?_⟩
  have c1 : eCall (c__law_whole_right CR) [0, 1] [] (aCons (e2 gIx (eVarB 2) (eC (.int 2))) (aCons (eVar 3) aNil)) (sB scr (.sh (.lst ((prs5 p q).map pD))) (.sh (.int w)) l4 (some (x, y))) = some (.bl true, sB scr (.sh (.lst ((prs5 p q).map pD))) (.sh (.int w)) l4 (some (x, y))) :=
    l_callG (pt := some (x, y)) rfl rfl rfl (whole_p CR (some (x, y)) h3 hw)
  have c2 : eCall (c__law_whole_right CR) [0, 1] [] (aCons (e2 gIx (eVarB 2) (eC (.int 0))) (aCons (eC (.int 0)) aNil)) (sB scr (.sh (.lst ((prs5 p q).map pD))) (.sh (.int w)) l4 (some (x, y))) = some (.bl true, sB scr (.sh (.lst ((prs5 p q).map pD))) (.sh (.int w)) l4 (some (x, y))) :=
    l_callG (pt := some (x, y)) rfl rfl rfl (whole_p CR (some (x, y)) hp z)
  have c3 : eCall (c__law_total_right CR) [0, 1] [] (aCons (eVar 1) (aCons (eVar 2) aNil)) (sB scr (.sh (.lst ((prs5 p q).map pD))) (.sh (.int w)) l4 (some (x, y))) = some (.bl true, sB scr (.sh (.lst ((prs5 p q).map pD))) (.sh (.int w)) l4 pt') :=
    l_callP (S0 := sB scr (.sh (.lst ((prs5 p q).map pD))) (.sh (.int w)) l4 (some (x, y))) (pt := some (x, y)) rfl rfl rfl t
  have a1 : eAnd (eCall (c__law_whole_right CR) [0, 1] [] (aCons (e2 gIx (eVarB 2) (eC (.int 0))) (aCons (eC (.int 0)) aNil))) (eCall (c__law_total_right CR) [0, 1] [] (aCons (eVar 1) (aCons (eVar 2) aNil))) (sB scr (.sh (.lst ((prs5 p q).map pD))) (.sh (.int w)) l4 (some (x, y))) = some (.bl true, sB scr (.sh (.lst ((prs5 p q).map pD))) (.sh (.int w)) l4 pt') := by
    unfold eAnd
    rw [c2]
    exact c3
  unfold lawE
  rw [show ∀ (f g : Sem1 D) (s : S), eAnd f g s = match f s with
    | some (.bl true, s1) => g s1
    | some (.bl false, s1) => some (.bl false, s1)
    | _ => none from fun _ _ _ => rfl, c1]
  exact a1
theorem law_body (ns : List Int) {x y : Int} (hy : Yk y) : ∃ pt', b_law CR ⟨(atD 6 [.scr ns] none).sl.set 1 (.sh .pot), some (x, y)⟩ = some (.rt (.bl true) pt') := by
  obtain ⟨a, b, x1, y1, h1, pa1, pb1, b0, hy1⟩ := pair_ok CR (x := x) hy
  obtain ⟨c, d, x2, y2, h2, c1, d1, d0, hy2⟩ := pair_ok CR (x := x1) hy1
  obtain ⟨w, x3, y3, h3, hw, hy3⟩ := whole_ok CR (x := x2) hy2
  have bw : B1 w := Nat.lt_trans hw (by decide)
  have ok := prs5_ok (p := (a, b)) (q := (c, d)) pa1 pb1 b0 c1 d1 d0
  have op : Okp (a, b) := okp_bd pa1 pb1 b0
  have oq : Okp (c, d) := okp_bd c1 d1 d0
  obtain ⟨pt', e⟩ := law6 CR (scr := .scr ns) (p := (a, b)) (q := (c, d)) (l4 := .sh (pD (c, d))) op bw ok (x := x3) hy3
  refine ⟨pt', ?_⟩
  have s0 : (⟨(atD 6 [.scr ns] none).sl.set 1 (.sh .pot), some (x, y)⟩ : S) = sB (.scr ns) .un .un .un (some (x, y)) := rfl
  have k1 : eCall (c__law_pair CR) [0] [] (aCons (eVar 1) aNil) (sB (.scr ns) .un .un .un (some (x, y))) = some (pD (a, b), sB (.scr ns) .un .un .un (some (x1, y1))) :=
    l_callP (S0 := sB (.scr ns) .un .un .un (some (x, y))) (pt := some (x, y)) rfl rfl rfl h1
  have k2 : eCall (c__law_pair CR) [0] [] (aCons (eVar 1) aNil) (sB (.scr ns) .un .un .un (some (x1, y1))) = some (pD (c, d), sB (.scr ns) .un .un .un (some (x2, y2))) :=
    l_callP (S0 := sB (.scr ns) .un .un .un (some (x1, y1))) (pt := some (x1, y1)) rfl rfl rfl h2
  have a1 : gOwn (eLst (aCons (eCall (c__law_pair CR) [0] [] (aCons (eVar 1) aNil)) (aCons (eCall (c__law_pair CR) [0] [] (aCons (eVar 1) aNil)) (aCons (eTup (aCons (eC (.int 0)) (aCons (eC (.int 3)) aNil))) aNil)))) 2 (sB (.scr ns) .un .un .un (some (x, y))) = some (.nx (sB (.scr ns) (.ow (.lst (L3 (a, b) (c, d)))) .un .un (some (x2, y2)))) := by
    unfold gOwn eLst
    rw [consS k1 (consS k2 (rfl : _ = some ([pD (0, 3)], sB (.scr ns) .un .un .un (some (x2, y2)))))]
    rfl
  have a4 : gAsg (eCall (c__law_whole CR) [0] [] (aCons (eVar 1) aNil)) (tgName 3) (sB (.scr ns) (.ow (.lst ((prs5 (a, b) (c, d)).map pD))) .un .un (some (x2, y2))) = some (.nx (sB (.scr ns) (.ow (.lst ((prs5 (a, b) (c, d)).map pD))) (.sh (.int w)) .un (some (x3, y3)))) :=
    l_asg (l_callP (S0 := sB (.scr ns) (.ow (.lst ((prs5 (a, b) (c, d)).map pD))) .un .un (some (x2, y2))) (pt := some (x2, y2)) rfl rfl rfl h3)
  have a6 : gSeq (gRet (lawE CR)) gNil (sB (.scr ns) (.sh (.lst ((prs5 (a, b) (c, d)).map pD))) (.sh (.int w)) (.sh (pD (c, d))) (some (x3, y3))) = some (.rt (.bl true) pt') := by
    unfold gSeq gRet
    rw [e]
    rfl
  have bd : b_law CR = gSeq (gOwn (eLst (aCons (eCall (c__law_pair CR) [0] [] (aCons (eVar 1) aNil)) (aCons (eCall (c__law_pair CR) [0] [] (aCons (eVar 1) aNil)) (aCons (eTup (aCons (eC (.int 0)) (aCons (eC (.int 3)) aNil))) aNil)))) 2)
    (gSeq (gApp 2 (eTup (aCons (e2 gMul (e2 gIx (e2 gIx (eVarB 2) (eC (.int 0))) (eC (.int 0))) (eC (.int 6))) (aCons (e2 gMul (e2 gIx (e2 gIx (eVarB 2) (eC (.int 0))) (eC (.int 1))) (eC (.int 6))) aNil))))
    (gSeq (gApp 2 (eTup (aCons (e2 gSub (eC (.int 0)) (e2 gIx (e2 gIx (eVarB 2) (eC (.int 1))) (eC (.int 0)))) (aCons (e2 gSub (eC (.int 0)) (e2 gIx (e2 gIx (eVarB 2) (eC (.int 1))) (eC (.int 1)))) aNil))))
    (gSeq (gAsg (eCall (c__law_whole CR) [0] [] (aCons (eVar 1) aNil)) (tgName 3)) (gSeq (lawF CR) (gSeq (gRet (lawE CR)) gNil))))) := rfl
  rw [s0, bd, seq_nx a1, seq_nx (law2 (some (x2, y2)) (p := (a, b)) (q := (c, d)) pa1 pb1), seq_nx (law3 (some (x2, y2))), seq_nx a4, seq_nx (law5 CR (some (x3, y3)) op oq bw ok), a6]
end
theorem math (CR : Addr) : Math CR := fun ns hn => by
  obtain ⟨x, y, h, hy⟩ := e_law_ok CR ns
  obtain ⟨pt', e⟩ := law_body CR ns (x := x) hy
  exact ⟨x, y, _, pt', h, rfl, e⟩
end G11
end
section
set_option Elab.async false
open PySem PySem.W PyProof.Rows
set_option maxRecDepth 100000 in
set_option maxHeartbeats 0 in
open_top head for PySem.Challenge.rw_soughtrows_k11_whole_numbers_reckoned
set_option maxRecDepth 100000 in
set_option maxHeartbeats 0 in
theorem PySem.Challenge.cw_soughtrows_k11_whole_numbers_reckoned_holds : PySem.Challenge.rw_soughtrows_k11_whole_numbers_reckoned.Holds := by
  refine head ?_
  refine VS.walk_vs (x := "_law_script") (k := 8) rfl (by decide) rfl ⟨⟨rfl, by decide, by decide⟩, fun _ => rfl⟩ (fun w h Y => PySem.W.kIn_of Y) ?F
  case F =>
    intro w mg fa h KX G hmg
    refine' G11.all_mk KX G hmg G11.math ?aR ?a_is_integer ?l_is_integer ?c_is_integer ?k_is_integer ?a_is_list ?l_is_list ?c_is_list ?k_is_list ?a_digits_of ?l_digits_of ?c_digits_of ?k_digits_of ?a_divisor_of ?l_divisor_of ?c_divisor_of ?k_divisor_of ?a_Ratio___init__ ?i_Ratio___init__ ?l_Ratio___init__ ?c_Ratio___init__ ?k_Ratio___init__ ?t1_Ratio___init__ ?a_Ratio_top ?b_Ratio_top ?e_Ratio_top ?g_Ratio_top ?l_Ratio_top ?c_Ratio_top ?k_Ratio_top ?a_Ratio_bottom ?b_Ratio_bottom ?e_Ratio_bottom ?g_Ratio_bottom ?l_Ratio_bottom ?c_Ratio_bottom ?k_Ratio_bottom ?a_Ratio_sign ?b_Ratio_sign ?e_Ratio_sign ?g_Ratio_sign ?l_Ratio_sign ?c_Ratio_sign ?k_Ratio_sign ?a_Ratio_is_whole ?b_Ratio_is_whole ?e_Ratio_is_whole ?g_Ratio_is_whole ?l_Ratio_is_whole ?c_Ratio_is_whole ?k_Ratio_is_whole ?a_told_pair ?l_told_pair ?c_told_pair ?k_told_pair ?a_Ratio___add__ ?i_Ratio___add__ ?l_Ratio___add__ ?c_Ratio___add__ ?k_Ratio___add__ ?a_Ratio___radd__ ?i_Ratio___radd__ ?l_Ratio___radd__ ?c_Ratio___radd__ ?k_Ratio___radd__ ?a_Ratio___sub__ ?i_Ratio___sub__ ?l_Ratio___sub__ ?c_Ratio___sub__ ?k_Ratio___sub__ ?a_Ratio___rsub__ ?i_Ratio___rsub__ ?l_Ratio___rsub__ ?c_Ratio___rsub__ ?k_Ratio___rsub__ ?a_Ratio___mul__ ?i_Ratio___mul__ ?l_Ratio___mul__ ?c_Ratio___mul__ ?k_Ratio___mul__ ?a_Ratio___rmul__ ?i_Ratio___rmul__ ?l_Ratio___rmul__ ?c_Ratio___rmul__ ?k_Ratio___rmul__ ?a_Ratio___neg__ ?i_Ratio___neg__ ?l_Ratio___neg__ ?c_Ratio___neg__ ?k_Ratio___neg__ ?a_Ratio_over ?i_Ratio_over ?l_Ratio_over ?c_Ratio_over ?k_Ratio_over ?a_Ratio_size ?i_Ratio_size ?l_Ratio_size ?c_Ratio_size ?k_Ratio_size ?a_Ratio_is_below ?i_Ratio_is_below ?l_Ratio_is_below ?c_Ratio_is_below ?k_Ratio_is_below ?a_Ratio_is_at_most ?i_Ratio_is_at_most ?l_Ratio_is_at_most ?c_Ratio_is_at_most ?k_Ratio_is_at_most ?a_Ratio___eq__ ?i_Ratio___eq__ ?l_Ratio___eq__ ?c_Ratio___eq__ ?k_Ratio___eq__ ?a_Ratio___str__ ?i_Ratio___str__ ?l_Ratio___str__ ?c_Ratio___str__ ?k_Ratio___str__ ?a_Ratio___repr__ ?i_Ratio___repr__ ?l_Ratio___repr__ ?c_Ratio___repr__ ?k_Ratio___repr__ ?a_is_number ?l_is_number ?c_is_number ?k_is_number ?a_ratio_of ?l_ratio_of ?c_ratio_of ?k_ratio_of ?a_want_number ?l_want_number ?c_want_number ?k_want_number ?a_total_of ?l_total_of ?c_total_of ?k_total_of ?a_Ratio_total ?b_Ratio_total ?e_Ratio_total ?g_Ratio_total ?i_Ratio_total ?l_Ratio_total ?c_Ratio_total ?k_Ratio_total ?a__law_pot ?l__law_pot ?c__law_pot ?k__law_pot ?a__law_draw ?l__law_draw ?c__law_draw ?k__law_draw ?a__law_pick ?l__law_pick ?c__law_pick ?k__law_pick ?a__law_top ?l__law_top ?c__law_top ?k__law_top ?a__law_whole ?l__law_whole ?c__law_whole ?k__law_whole ?a__law_pair ?l__law_pair ?c__law_pair ?k__law_pair ?a__law_common ?l__law_common ?c__law_common ?k__law_common ?a__law_is ?l__law_is ?c__law_is ?k__law_is ?a__law_two_right ?l__law_two_right ?c__law_two_right ?k__law_two_right ?a__law_whole_right ?l__law_whole_right ?c__law_whole_right ?k__law_whole_right ?a__law_total_right ?l__law_total_right ?c__law_total_right ?k__law_total_right ?a_law ?l_law ?c_law ?k_law ?pgR ?hdR ?poR ?saR ?haR ?hnR ?htR ?hmR ?wiR ?wbR ?wlR ?wtR ?wmR ?wfiR ?wfbR ?wflR ?wftR ?wfsR ?wfnR ?mkR ?kpR ?neR ?soR ?niR ?nmR ?n_own_top ?n_own_bottom ?sf ?s1 ?s2 ?o1_add ?o2_add ?o1_sub ?o2_sub ?o1_mul ?o2_mul ?a_PART ?b_isinstance ?b_int ?b_bool ?b_list ?b_tuple ?b_str ?b_repr ?b_abs ?b_max ?b_len ?b_divmod ?b_all ?b_range ?a_gcd
    case aR => k_is
    case a_is_integer => k_is
    case l_is_integer => k_is
    case c_is_integer => k_is
    case k_is_integer => k_is
    case a_is_list => k_is
    case l_is_list => k_is
    case c_is_list => k_is
    case k_is_list => k_is
    case a_digits_of => k_is
    case l_digits_of => k_is
    case c_digits_of => k_is
    case k_digits_of => k_is
    case a_divisor_of => k_is
    case l_divisor_of => k_is
    case c_divisor_of => k_is
    case k_divisor_of => k_is
    case a_Ratio___init__ => k_is
    case i_Ratio___init__ => k_is
    case l_Ratio___init__ => k_is
    case c_Ratio___init__ => k_is
    case k_Ratio___init__ => k_is
    case t1_Ratio___init__ => k_is
    case a_Ratio_top => k_is
    case b_Ratio_top => k_is
    case e_Ratio_top => k_is
    case g_Ratio_top => k_is
    case l_Ratio_top => k_is
    case c_Ratio_top => k_is
    case k_Ratio_top => k_is
    case a_Ratio_bottom => k_is
    case b_Ratio_bottom => k_is
    case e_Ratio_bottom => k_is
    case g_Ratio_bottom => k_is
    case l_Ratio_bottom => k_is
    case c_Ratio_bottom => k_is
    case k_Ratio_bottom => k_is
    case a_Ratio_sign => k_is
    case b_Ratio_sign => k_is
    case e_Ratio_sign => k_is
    case g_Ratio_sign => k_is
    case l_Ratio_sign => k_is
    case c_Ratio_sign => k_is
    case k_Ratio_sign => k_is
    case a_Ratio_is_whole => k_is
    case b_Ratio_is_whole => k_is
    case e_Ratio_is_whole => k_is
    case g_Ratio_is_whole => k_is
    case l_Ratio_is_whole => k_is
    case c_Ratio_is_whole => k_is
    case k_Ratio_is_whole => k_is
    case a_told_pair => k_is
    case l_told_pair => k_is
    case c_told_pair => k_is
    case k_told_pair => k_is
    case a_Ratio___add__ => k_is
    case i_Ratio___add__ => k_is
    case l_Ratio___add__ => k_is
    case c_Ratio___add__ => k_is
    case k_Ratio___add__ => k_is
    case a_Ratio___radd__ => k_is
    case i_Ratio___radd__ => k_is
    case l_Ratio___radd__ => k_is
    case c_Ratio___radd__ => k_is
    case k_Ratio___radd__ => k_is
    case a_Ratio___sub__ => k_is
    case i_Ratio___sub__ => k_is
    case l_Ratio___sub__ => k_is
    case c_Ratio___sub__ => k_is
    case k_Ratio___sub__ => k_is
    case a_Ratio___rsub__ => k_is
    case i_Ratio___rsub__ => k_is
    case l_Ratio___rsub__ => k_is
    case c_Ratio___rsub__ => k_is
    case k_Ratio___rsub__ => k_is
    case a_Ratio___mul__ => k_is
    case i_Ratio___mul__ => k_is
    case l_Ratio___mul__ => k_is
    case c_Ratio___mul__ => k_is
    case k_Ratio___mul__ => k_is
    case a_Ratio___rmul__ => k_is
    case i_Ratio___rmul__ => k_is
    case l_Ratio___rmul__ => k_is
    case c_Ratio___rmul__ => k_is
    case k_Ratio___rmul__ => k_is
    case a_Ratio___neg__ => k_is
    case i_Ratio___neg__ => k_is
    case l_Ratio___neg__ => k_is
    case c_Ratio___neg__ => k_is
    case k_Ratio___neg__ => k_is
    case a_Ratio_over => k_is
    case i_Ratio_over => k_is
    case l_Ratio_over => k_is
    case c_Ratio_over => k_is
    case k_Ratio_over => k_is
    case a_Ratio_size => k_is
    case i_Ratio_size => k_is
    case l_Ratio_size => k_is
    case c_Ratio_size => k_is
    case k_Ratio_size => k_is
    case a_Ratio_is_below => k_is
    case i_Ratio_is_below => k_is
    case l_Ratio_is_below => k_is
    case c_Ratio_is_below => k_is
    case k_Ratio_is_below => k_is
    case a_Ratio_is_at_most => k_is
    case i_Ratio_is_at_most => k_is
    case l_Ratio_is_at_most => k_is
    case c_Ratio_is_at_most => k_is
    case k_Ratio_is_at_most => k_is
    case a_Ratio___eq__ => k_is
    case i_Ratio___eq__ => k_is
    case l_Ratio___eq__ => k_is
    case c_Ratio___eq__ => k_is
    case k_Ratio___eq__ => k_is
    case a_Ratio___str__ => k_is
    case i_Ratio___str__ => k_is
    case l_Ratio___str__ => k_is
    case c_Ratio___str__ => k_is
    case k_Ratio___str__ => k_is
    case a_Ratio___repr__ => k_is
    case i_Ratio___repr__ => k_is
    case l_Ratio___repr__ => k_is
    case c_Ratio___repr__ => k_is
    case k_Ratio___repr__ => k_is
    case a_is_number => k_is
    case l_is_number => k_is
    case c_is_number => k_is
    case k_is_number => k_is
    case a_ratio_of => k_is
    case l_ratio_of => k_is
    case c_ratio_of => k_is
    case k_ratio_of => k_is
    case a_want_number => k_is
    case l_want_number => k_is
    case c_want_number => k_is
    case k_want_number => k_is
    case a_total_of => k_is
    case l_total_of => k_is
    case c_total_of => k_is
    case k_total_of => k_is
    case a_Ratio_total => k_is
    case b_Ratio_total => k_is
    case e_Ratio_total => k_is
    case g_Ratio_total => k_is
    case i_Ratio_total => k_is
    case l_Ratio_total => k_is
    case c_Ratio_total => k_is
    case k_Ratio_total => k_is
    case a__law_pot => k_is
    case l__law_pot => k_is
    case c__law_pot => k_is
    case k__law_pot => k_is
    case a__law_draw => k_is
    case l__law_draw => k_is
    case c__law_draw => k_is
    case k__law_draw => k_is
    case a__law_pick => k_is
    case l__law_pick => k_is
    case c__law_pick => k_is
    case k__law_pick => k_is
    case a__law_top => k_is
    case l__law_top => k_is
    case c__law_top => k_is
    case k__law_top => k_is
    case a__law_whole => k_is
    case l__law_whole => k_is
    case c__law_whole => k_is
    case k__law_whole => k_is
    case a__law_pair => k_is
    case l__law_pair => k_is
    case c__law_pair => k_is
    case k__law_pair => k_is
    case a__law_common => k_is
    case l__law_common => k_is
    case c__law_common => k_is
    case k__law_common => k_is
    case a__law_is => k_is
    case l__law_is => k_is
    case c__law_is => k_is
    case k__law_is => k_is
    case a__law_two_right => k_is
    case l__law_two_right => k_is
    case c__law_two_right => k_is
    case k__law_two_right => k_is
    case a__law_whole_right => k_is
    case l__law_whole_right => k_is
    case c__law_whole_right => k_is
    case k__law_whole_right => k_is
    case a__law_total_right => k_is
    case l__law_total_right => k_is
    case c__law_total_right => k_is
    case k__law_total_right => k_is
    case a_law => k_is
    case l_law => k_is
    case c_law => k_is
    case k_law => k_is
    case pgR => k_is
    case hdR => k_is
    case poR => k_is
    case saR => k_is
    case haR => k_is
    case hnR => k_is
    case htR => k_is
    case hmR => k_is
    case wiR => kit_is
    case wbR => kit_is
    case wlR => kit_is
    case wtR => kit_is
    case wmR => kit_is
    case wfiR => kit_is
    case wfbR => kit_is
    case wflR => kit_is
    case wftR => kit_is
    case wfsR => kit_is
    case wfnR => kit_is
    case mkR => k_is
    case kpR => k_is
    case neR => k_is
    case soR => k_is
    case niR => k_is
    case nmR => k_is
    case n_own_top => k_is
    case n_own_bottom => k_is
    case sf => k_is
    case s1 => k_is
    case s2 => k_is
    case o1_add => k_is
    case o2_add => k_is
    case o1_sub => k_is
    case o2_sub => k_is
    case o1_mul => k_is
    case o2_mul => k_is
    case a_PART => k_is
    case b_isinstance => k_is
    case b_int => k_is
    case b_bool => k_is
    case b_list => k_is
    case b_tuple => k_is
    case b_str => k_is
    case b_repr => k_is
    case b_abs => k_is
    case b_max => k_is
    case b_len => k_is
    case b_divmod => k_is
    case b_all => k_is
    case b_range => k_is
    case a_gcd => k_is
end
